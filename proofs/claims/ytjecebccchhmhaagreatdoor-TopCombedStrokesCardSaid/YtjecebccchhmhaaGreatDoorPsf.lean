/- Texts of the proof of the statement that the last text proves. -/
import Derived.Test.YtjecebccchhmhaaGreatDoorPse
set_option linter.all false
set_option maxHeartbeats 2000000
variable{l r rv:List Int}{a b c d i j k lm m n tid:Nat}{o:List Nat}{C:List (List Int)}{f:Go.FuncId}{x:Go.Operand}{g:Bool}{cs:List Prop}{bt:Nat→Nat}{R:Nat→List Int}{p q:Prop}{P X:Nat→Nat→Bool}{ops:List Go.Oper}{gg:Nat×Bool}{fn:Go.Func}{eid kid t tm ty vid:Go.TypeId}{α:Type}{af:Array Go.Edge}{s:Int}
namespace Ox
open Go Go.RowKit
variable {X:Ctx}{s:S}{M:Mem}{ρ:Env}{a:Act}{w w':World}{QA:Exit→S→Prop}{all l:List Oper}{P:Program}
variable {L:List (Nat×AV)}{H:List (Nat×HO)}{nx d n:Nat}{rr:List Fr}{c1 c2:List Prop}{ty ty2:TypeId}{ps ps2:String}{af af2:Array Edge}{md:Bool}
variable {m:Nat}
section
variable {x:Operand}{t:TypeId}{xs:List Int}{eid:TypeId}{e:Ty}
end
section
variable {kt vt:Ty}{t kid vid:TypeId}{es:List (Ent kt vt)}{clk n:Nat}{x:kt.den}{om ok ov:Operand}{c3:List Prop}{o:Oper}
end
end Ox
namespace Go.Proofs.YtjecebccchhmhaaGreatDoor
open Go Go.RowKit Ox
variable {E:World}{M0:Mem}{n:Nat}{rd:Option Nat}{up:Nat→Nat→Value}{dp:Nat}{QA:Exit→S→Prop}{st st' r:List Fr}{s s':S}{cs:List Prop}{md:Bool}{all l:List Oper}{d:Nat}{op:Op}{ty:TypeId}{ps:String}{af:Array Edge}{g:Bool}{gg:Nat×Bool}{v:AV}{f:FuncId}{args:AV}{L:List (Nat×AV)}{H:List (Nat×HO)}{nx:Nat}{kt vt:Ty}{t kid vid:TypeId}{es:List (Ent kt vt)}{clk m:Nat}{x y:kt.den}{c1 c2 c3:List Prop}{om ok ov:Operand}
def zs(h:stepC tys ets n false st s=some (cs,st',s'))(k:JK ⟨Tryz.prog,tys,ets,mts,E,M0,n,rd,up,dp⟩ st' QA s')(hc:allP cs:=by exact zD):JK ⟨Tryz.prog,tys,ets,mts,E,M0,n,rd,up,dp⟩ st QA s:=j0r xk h k hc
def zu(h:stepC tys ets n true st s=some (cs,st',s'))(k:JK ⟨Tryz.prog,tys,ets,mts,E,M0,n,rd,up,dp⟩ st' QA s')(hc:allP cs:=by exact zD):JK ⟨Tryz.prog,tys,ets,mts,E,M0,n,rd,up,dp⟩ st QA s:=j0r xk h k hc
def zg(hg:gOf all L (some gg)=some g)(h:evb tys op ⟨L,H,nx⟩=some (cs,v))(hd:ltB d n=true)(k:JK ⟨Tryz.prog,tys,ets,mts,E,M0,n,rd,up,dp⟩ (.ops md all l::r) QA ⟨(d,.gd g v)::L,H,nx⟩)
  (hc:g=true→allP cs:=by(first|(exact fun _=>trivial)|(exact fun hgd=>hgd)|(exact zE)|(exact fun hgd=>And.intro hgd (fun hpk=>Bool.and_eq_true_iff.2 ⟨hgd,by rw[hpk];rfl⟩))|(exact zF))) :
  JK ⟨Tryz.prog,tys,ets,mts,E,M0,n,rd,up,dp⟩ (.ops md all (⟨some d,op,ty,ps,af,some gg⟩::l)::r) QA ⟨L,H,nx⟩:=JK.gd xk hg h hd k hc
def zd{id:Nat}(k:JK ⟨Tryz.prog,tys,ets,mts,E,M0,n,rd,up,dp⟩ (.ops false ops ops::r) QA s)(hB:(Region.lexB .any ops.toArray&&ndAll ops)=true:=by decide +kernel):JK ⟨Tryz.prog,tys,ets,mts,E,M0,n,rd,up,dp⟩ (.code (.region id ⟨ops⟩ true)::r) QA s:=JK.draw xk k hB
def zc(h:callA tys op ⟨L,H,nx⟩=some (cs,f,args))(hf:Ox.Fn Tryz.prog f args (·=v))(hr:v.scal=true)(hd:ltB d n=true)(k:JK ⟨Tryz.prog,tys,ets,mts,E,M0,n,rd,up,dp⟩ (.ops md all l::r) QA ⟨(d,v)::L,H,nx⟩)(hc:allP cs:=by exact zD) :
  JK ⟨Tryz.prog,tys,ets,mts,E,M0,n,rd,up,dp⟩ (.ops md all (⟨some d,op,ty,ps,af,none⟩::l)::r) QA ⟨L,H,nx⟩:=JK.sc h hf hr hd k hc
def zk(hg:gOf all L (some gg)=some g)(h:callA tys op ⟨L,H,nx⟩=some (cs,f,args))(hf:g=true→Ox.Fn Tryz.prog f args (·=v))(hr:v.scal=true)(hd:ltB d n=true)(k:JK ⟨Tryz.prog,tys,ets,mts,E,M0,n,rd,up,dp⟩ (.ops md all l::r) QA ⟨(d,.gd g v)::L,H,nx⟩)
  (hc:g=true→allP cs:=by(first|(exact fun _=>trivial)|(exact fun hgd=>hgd)|(exact zE)|(exact zF))):JK ⟨Tryz.prog,tys,ets,mts,E,M0,n,rd,up,dp⟩ (.ops md all (⟨some d,op,ty,ps,af,some gg⟩::l)::r) QA ⟨L,H,nx⟩:=JK.scg hg h hf hr hd k hc
def ze(h:callA tys op ⟨L,[],nx⟩=some (cs,f,args))(hf:Ox.Fn Tryz.prog f args (·=v))(hd:ltB d n=true)(k:JK ⟨Tryz.prog,tys,ets,mts,E,M0,n,rd,up,dp⟩ (.ops true all l::r) QA ⟨(d,v)::L,H,nx⟩)(hc:allP cs:=by exact zD) :
  JK ⟨Tryz.prog,tys,ets,mts,E,M0,n,rd,up,dp⟩ (.ops true all (⟨some d,op,ty,ps,af,none⟩::l)::r) QA ⟨L,H,nx⟩:=JK.ce h hf hd k hc
def zt(hg:gOf all L (some gg)=some g)(ha:g=true){dd:Option Nat}(k:JK ⟨Tryz.prog,tys,ets,mts,E,M0,n,rd,up,dp⟩ (.ops true all (⟨dd,op,ty,ps,af,none⟩::l)::r) QA ⟨L,H,nx⟩):JK ⟨Tryz.prog,tys,ets,mts,E,M0,n,rd,up,dp⟩ (.ops true all (⟨dd,op,ty,ps,af,some gg⟩::l)::r) QA ⟨L,H,nx⟩:=JK.gT hg ha k
def zfl(hg:gOf all L (some gg)=some g)(ha:g=false)(hd:ltB d n=true)(k:JK ⟨Tryz.prog,tys,ets,mts,E,M0,n,rd,up,dp⟩ (.ops true all l::r) QA ⟨(d,.undef)::L,H,nx⟩):JK ⟨Tryz.prog,tys,ets,mts,E,M0,n,rd,up,dp⟩ (.ops true all (⟨some d,op,ty,ps,af,some gg⟩::l)::r) QA ⟨L,H,nx⟩:=JK.gF hg ha hd k
def znf(k:JK ⟨Tryz.prog,tys,ets,mts,E,M0,n,rd,up,dp⟩ (.ops true all l::r) QA ⟨del L d,H,nx⟩):JK ⟨Tryz.prog,tys,ets,mts,E,M0,n,rd,up,dp⟩ (.ops true all (⟨some d,.assign (.const .nilFunc),ty,ps,af,none⟩::l)::r) QA ⟨L,H,nx⟩:=JK.nilF k
structure HB(q:Prop):Prop where
 h:q
def zK0(k:q)(h:HB q→p:=by(intro hzz;(repeat (first|refine zs rfl ?_|refine zg rfl rfl rfl ?_|refine zd ?_|refine w9 ?_|refine w7 ?_));exact hzz.h)):p:=h ⟨k⟩
def zK1(k:q)(h:HB q→p:=by(intro hzz;(repeat (first|refine zs rfl ?_|refine zg rfl rfl rfl ?_|refine zd ?_|refine w9 ?_|refine w7 ?_));exact hzz.h)):p:=h ⟨k⟩
def zK2(k:q)(h:HB q→p:=by(intro hzz;(first|refine JL.G1 xk rfl rfl rfl ?_|refine z1g xk rfl rfl ?_|refine JL.M0 xk rfl ?_|refine JL.EqQ eqPr rfl rfl rfl ?_|refine JL.S1 rfl (h1) rfl trivial rfl ?_|refine JL.S1g rfl rfl (fun hgd=>h1) rfl trivial rfl ?_|refine JL.S1 rfl (h2) rfl trivial rfl ?_|refine JL.S1g rfl rfl (fun hgd=>h2) rfl trivial rfl ?_);exact hzz.h)):p:=h ⟨k⟩
def zK3(k:q)(h:HB q→p:=by(intro hzz;(repeat (first|refine zs rfl ?_|refine zg rfl rfl rfl ?_|refine zd ?_|refine w9 ?_|refine w7 ?_|refine q5x brd rfl rfl trivial ?_|refine q49 brd rfl rfl rfl (fun h=>h) ?_));exact hzz.h)):p:=h ⟨k⟩
def zK4(k:q)(h:HB q→p:=by(intro hzz;(first|refine JL.M0 xk rfl ?_);exact hzz.h)):p:=h ⟨k⟩
def zK5(k:q)(h:HB q→p:=by(intro hzz;(repeat (first|refine zs rfl ?_|refine zg rfl rfl rfl ?_|refine w9 ?_|refine w7 ?_));exact hzz.h)):p:=h ⟨k⟩
def zK6(k:q)(h:HB q→p:=by(intro hzz;(repeat (first|refine zs rfl ?_|refine zg rfl rfl rfl ?_|refine zd ?_|refine w9 ?_|refine w7 ?_|refine zc rfl (hx) rfl rfl ?_|refine ze rfl (hx) rfl ?_|refine zk rfl rfl (fun _=>hx) rfl rfl ?_));exact hzz.h)):p:=h ⟨k⟩
def zK7(k:q)(h:HB q→p:=by(intro hzz;(repeat (first|refine zt rfl rfl ?_|refine zs rfl ?_|refine zg rfl rfl rfl ?_|refine zd ?_|refine w9 ?_|refine w7 ?_|refine zc rfl (c1) rfl rfl ?_|refine ze rfl (c1) rfl ?_|refine zk rfl rfl (fun _=>c1) rfl rfl ?_|refine zc rfl (c2) rfl rfl ?_|refine ze rfl (c2) rfl ?_|refine zk rfl rfl (fun _=>c2) rfl rfl ?_));exact hzz.h)):p:=h ⟨k⟩
def zK8(k:q)(h:HB q→p:=by(intro hzz;(repeat (first|refine zs rfl ?_|refine zg rfl rfl rfl ?_|refine zd ?_|refine w9 ?_|refine w7 ?_|refine zc rfl (c24) rfl rfl ?_|refine ze rfl (c24) rfl ?_|refine zk rfl rfl (fun _=>c24) rfl rfl ?_|refine zc rfl (c25) rfl rfl ?_|refine ze rfl (c25) rfl ?_|refine zk rfl rfl (fun _=>c25) rfl rfl ?_|refine zc rfl (c26) rfl rfl ?_|refine ze rfl (c26) rfl ?_|refine zk rfl rfl (fun _=>c26) rfl rfl ?_));exact hzz.h)):p:=h ⟨k⟩
def zK9(k:q)(h:HB q→p:=by(intro hzz;(repeat (first|refine zs rfl ?_|refine zg rfl rfl rfl ?_|refine zd ?_|refine w9 ?_|refine w7 ?_|refine zc rfl (h1) rfl rfl ?_|refine ze rfl (h1) rfl ?_|refine zk rfl rfl (fun _=>h1) rfl rfl ?_));exact hzz.h)):p:=h ⟨k⟩
def zK10(k:q)(h:HB q→p:=by(intro hzz;(repeat (first|refine zs rfl ?_|refine zg rfl rfl rfl ?_|refine zd ?_|refine w9 ?_|refine w7 ?_|refine zc rfl (c27) rfl rfl ?_|refine ze rfl (c27) rfl ?_|refine zk rfl rfl (fun _=>c27) rfl rfl ?_));exact hzz.h)):p:=h ⟨k⟩
def zK11(k:q)(h:HB q→p:=by(intro hzz;(repeat (first|refine zs rfl ?_|refine zg rfl rfl rfl ?_|refine zd ?_|refine w9 ?_|refine w7 ?_|refine zc rfl (h18) rfl rfl ?_|refine ze rfl (h18) rfl ?_|refine zk rfl rfl (fun _=>h18) rfl rfl ?_|refine zc rfl (c113) rfl rfl ?_|refine ze rfl (c113) rfl ?_|refine zk rfl rfl (fun _=>c113) rfl rfl ?_));exact hzz.h)):p:=h ⟨k⟩
def zK12(k:q)(h:HB q→p:=by(intro hzz;(repeat (first|refine zs rfl ?_|refine zg rfl rfl rfl ?_|refine zd ?_|refine w9 ?_|refine w7 ?_|refine zc rfl (c20r) rfl rfl ?_|refine ze rfl (c20r) rfl ?_|refine zk rfl rfl (fun _=>c20r) rfl rfl ?_));exact hzz.h)):p:=h ⟨k⟩
def zB0(h:p:=by(· refine zK4 ?_;refine w4 ?_;refine q0b xk StF.nil ?_;((refine zK0 ?_;refine⟨k1,?_,n1,n2⟩;rw[hup,hki,hY];exact zJ)))):p:=h
def zB1(h:p:=by(· refine zK2 ?_;refine w4 ?_;refine q7 24 xk rfl rfl ?_;refine q0b xk ?_ ?_;exact zS;(exact zJ))):p:=h
def zU{X:Ctx}{K:S→Prop}{ls fl fl2:List Nat}{fuel:Nat}{o:Oper}(i:Nat)(hX:XOK X)(ho:ops[i]?=some o)(hf:(fl.filter fun f=>!waits o f)=fl2)(h:JL X true ops (qN fun t=>JF X ops K fl2 fuel (i::ls) t) [o] s)(hst:StF X ops s fl:=by(focus (repeat (first|exact StF.nil|refine q7h rfl rfl rfl ?_))))(hc:ndB ops ls fl [i]=true:=by decide +kernel):JF X ops K fl (fuel+1) ls s:=q0u i [] hX hst (BrF.one ho hf h BrF.nil) hc
def zS(h:p:=by(focus (repeat (first|exact StF.nil|refine q7h rfl rfl rfl ?_)))):p:=h
def zC(a:p)(h:p→q:=by(intro hzz;simp only[↓cdL] at hzz;(try simp only[Ty.dflt,Int.toNat_natCast] at hzz);exact hzz)):q:=h a
def zJ(h:p:=by(exact JW.Auto (by conv=>lhs;reduce))):p:=h
def zR{T:List (Nat×Ty)}{R:AV→Prop}{r:AV}(h:resA T fn s=some (cs,r))(hc:allP cs)(hr:R r):retQ T fn R .ret s:=⟨.inl rfl,cs,r,h,hc,hr⟩
end Go.Proofs.YtjecebccchhmhaaGreatDoor
namespace Ox.Gl
def NB(P:Nat→Nat→Bool)(n:Nat):Prop:=∀ S:Nat→Prop,(∃ c,S c)→(∀ c,S c→c<n)→∃ c,S c∧∀ a,S a→P a c=false
def swp[Inhabited α](l:List α)(i k:Nat):List α:=(l.set i (l.getD k default)).set k (l.getD i default)
def q8s{α:Type}{x:α}:∀ {l:List α} {i:Nat} (h:i<l.length),(l[i]::l.set i x).Perm (x::l)
 |a::r,0,_=>by simpa using List.Perm.swap x a r
 |a::r,i+1,h=>by have ih:=q8s (x:=x) (l:=r) (i:=i) (Nat.lt_of_succ_lt_succ h);simp only[List.getElem_cons_succ,List.set_cons_succ];exact(List.Perm.swap _ _ _).trans ((ih.cons a).trans (List.Perm.swap _ _ _))
def swp_perm[Inhabited α]{l:List α}(hi:i<l.length)(hk:k<l.length):(swp l i k).Perm l:=by
 unfold swp;have e1:l.getD k default=l[k]:=by simp[List.getD,hk]
 have e2:l.getD i default=l[i]:=by simp[List.getD,hi]
 rw[e1,e2];have p1:=q8s (x:=l[k]) hi;have ha:k<(l.set i l[k]).length:=by simpa using hk
 have p2:=q8s (l:=l.set i l[k]) (x:=l[i]) ha;have e3:(l.set i l[k])[k]=l[k]:=by rw[List.getElem_set];split<;>rfl
 rw[e3] at p2;exact(List.perm_cons _).1 (p2.trans p1)
def swp_len[Inhabited α](l:List α)(i k:Nat):(swp l i k).length=l.length:=by simp[swp]
def shufF(by_:List Int)(n:Nat):Nat→List Int→List Int
 |0,l=>l
 |m+1,l=>let q:=shufF by_ n m l;swp q m ((by_.getD (m % by_.length) 0).toNat % n)
def q6s(u:List Int)(n:Nat):∀ (m:Nat) (l:List Int),(shufF u n m l).length=l.length
 |0,l=>rfl
 |m+1,l=>by simp only[shufF,swp_len];exact q6s u n m l
def q70(u:List Int){n:Nat}:∀ (m:Nat) (l:List Int),m≤n→l.length=n→(shufF u n m l).Perm l
 |0,l,_,_=>List.Perm.refl _
 |m+1,l,h,hl=>by
  have ih:=q70 u m l (by omega) hl;have hq:(shufF u n m l).length=n:=by rw[q6s,hl]
  exact(swp_perm (by omega) (by rw[hq];exact Nat.mod_lt _ (by omega))).trans ih
def okc(P:Nat→Nat→Bool)(n:Nat)(q:List Nat)(c:Nat):Bool:=!(q.contains c)&&(List.range n).all fun a=>!(P a c)||q.contains a
variable{q:List Nat}
def n8:okc P n q c=true↔c∉q∧∀ a,a<n→P a c=true→a∈q:=by
 unfold okc;rw[yyc,yys,yyz];refine and_congr (by rw[← Bool.not_eq_true,List.contains_iff_mem]) ⟨fun h a ha hp=>?_,fun h a ha=>?_⟩
 ·have:=h a (yyr.2 ha);rw[hp] at this;simpa using this
 ·cases hp:P a c
  ·rfl
  ·simpa using h a (yyr.1 ha) hp
section
variable {P P':Nat→Nat→Bool}{n:Nat}{f:Nat→Nat}
end
def j0h(h:NB P n)(hn:∃ c,c<n∧c∉q):∃ c,c<n∧okc P n q c=true:=by obtain⟨c,h1,h2⟩:=h (fun c=>c<n∧c∉q) hn fun c hc=>hc.1;refine⟨c,h1.1,n8.2 ⟨h1.2,fun a ha hp=>yxy fun hc=>?_⟩⟩;rw[h2 a ⟨ha,hc⟩] at hp;cases hp
end Ox.Gl
namespace Ox
open Go Go.RowKit
variable {X:Ctx}{s:S}{M:Mem}{ρ:Env}{a:Act}{w w':World}{QA:Exit→S→Prop}{all l:List Oper}{o:Oper}
variable {md:Bool}
variable {L:List (Nat×AV)}{H:List (Nat×HO)}{nx m lo hi:Nat}{t:TypeId}{e:Ty}{eid:TypeId}{xs:List e.den}{c1:List Prop}{x:Operand}{ty:TypeId}{ps:String}{af:Array Edge}{f:Bool}
def j0l{d:Nat}{L':List (Nat×AV)}{H':List (Nat×HO)}(hd:lk L d=some (.lf (.ovw m 0 hi false)))(hl:lk H m=some (.sl eid e xs))(hr:hi≤xs.length)(hL:∀ d v,lk L' d=some v→lk L d=some v)(hH:subH H H')(hm:lk H' m=none) :
  JW X ⟨(d,.lf (.osl nx))::L',(nx,.sl eid e (xs.take hi))::H',nx+1⟩ ⟨L,H,nx⟩:=by
 intro M ρ a w h1 h2;have hu:=y9 h1 hl;simp only[HO.ok] at hu;obtain⟨hJ,cs0,hp,hv⟩:=hu;have hh:=(h2.reg d _ hd).2;rw[v4] at hh;simp only[Leaf.at,yya] at hh;obtain⟨hh,_⟩:=hh;have ha:(xs.take hi).length=hi:=by simp;omega
 have key:∃ v,sview (ρ.sv m) (ρ.ty m).size 0 hi false=v∧w.ownsRow X.E.heap.size eid e.size v (xs.take hi).length (cs0.take (hi*e.size))∧(∀ b,v.ownBlock=some b→(ρ.sv m).ownBlock=some b):=by
  rcases hp.2 with⟨e1,hn⟩|⟨g,cap,cur,hw,hA,hB,hK,hC,hD,hE⟩
  ·have h0:hi=0:=by omega
   subst h0;refine⟨.slice none 0 0,by rw[e1];rfl,⟨by simp,.inl ⟨rfl,by simp⟩⟩,fun b hb=>by simp[Value.ownBlock] at hb⟩
  ·refine⟨.slice (some ⟨g,0,none⟩) hi cap,?_,⟨?_,.inr ⟨g,cap,cur,by rw[ha],hA,hB,by rw[ha];omega,hC,hD,?_⟩⟩,fun b hb=>by rw[hw];exact hb⟩
   ·rw[hw];simp[sview,Addr.add]
   ·rw[ha,yxh,hv.1];exact yxp (yy1 _ hr)
   ·rw[ha,← hE,List.take_take,yxp (yy1 _ hr)]
 obtain⟨v,hy,hz,hF⟩:=key;have hj:∀ b,(ρ.sv m).ownBlock=some b→X.E.heap.size≤b∧M b=none:=h1.row hl;have hs:SAT X M (ρ.with nx 0 e v) ⟨L,(nx,.sl eid e (xs.take hi))::H',nx+1⟩ w:=by refine SAT.newRow (s:=⟨L,H,nx⟩) h1 (row:=(ρ.sv m).ownBlock) (r7 w _) (fun b hb=>hj b hb) (fun k o hk=>⟨hH k o hk,fun b hb hG=>?_⟩) hz (hv.take hi) (fun b hb=>.inl (hF b hb));have:=h1.apart k m o _ b (hH k o hk) hl hb hG;subst this;rw[hm] at hk;cases hk
 refine⟨ρ.with nx 0 e v,hs.regs _,h2.size,h2.defers,fun d' v' hg=>?_⟩;simp only[lk] at hg;by_cases he:d=d'
 ·subst he;rw[if_pos rfl] at hg;injection hg with hg;subst hg
  refine⟨yxd _,?_⟩;rw[v4];refine⟨?_,?_⟩
  ·simp only[Leaf.at,Env.with,if_true];rw[← hh,hy]
  ·rw[← hh,hy];rcases hz.2 with⟨e1,_⟩|⟨g,cap,cur,e1,_⟩<;>rw[e1]<;>rfl
 ·rw[if_neg he] at hg;obtain⟨f1,f2⟩:=h2.reg d' v' (hL d' v' hg);exact⟨z8 (yxf _) f1,j6 (Mem.le_refl M) (j9 _ _ _ _ _) f1 f2⟩
variable {d:Nat}
def ghP(n:Nat):AV→List Bool→Option AV
 |.lf .nils,[]=>some (.lf (.osl n))
 |.mix a b,false::p=>(ghP n a p).map fun x=>.mix x b
 |.mix a b,true::p=>(ghP n b p).map fun x=>.mix a x
 |_,_=>none
def z8w:∀ {v:AV} {p:List Bool} {v':AV},ghP n v p=some v'→v.bd n→v'.bd (n+1)∧(∀ t,confB t v=true→confB t v'=true)∧∀ cs,v.rc M ρ cs→v'.rc M (ρ.nilAt n e) cs:=by
 intro v p v' h hb
 fun_induction ghP n v p generalizing v' with
 |case1=>
  injection h with h;subst h
  refine⟨yxd _,fun t ht=>?_,fun cs hc=>?_⟩
  ·cases t<;>first|rfl|(simp[confB] at ht;done)
  ·simp only[AV.rc,Leaf.at] at hc ⊢;obtain⟨v,h1,h2,h3⟩:=hc;exact⟨v,by rw[← h1];simp[Env.nilAt],h2,h3⟩
 |case2 a b p ih=>
  simp only[yyk] at h;obtain⟨a',ha,rfl⟩:=h;obtain⟨e1,e2,e3⟩:=ih ha hb.1;refine⟨⟨e1,z8 (yxf _) hb.2⟩,fun t ht=>?_,fun cs hc=>?_⟩
  ·cases t with
   |cons ta tb=>simp only[confB,yyc] at ht ⊢;exact⟨e2 _ ht.1,ht.2⟩
   |arr m e=>
    cases m with
    |zero=>simp[confB] at ht
    |succ m=>simp only[confB,yyc] at ht ⊢;exact⟨e2 _ ht.1,ht.2⟩
   |_=>simp[confB] at ht
  ·simp only[AV.rc] at hc ⊢;obtain⟨c1,c2,k1,k2,k3⟩:=hc;exact⟨c1,c2,e3 _ k1,y7 (Mem.le_refl M) (q0m ρ n e) hb.2 k2,k3⟩
 |case3 a b p ih=>
  simp only[yyk] at h;obtain⟨b',hd,rfl⟩:=h;obtain⟨e1,e2,e3⟩:=ih hd hb.2;refine⟨⟨z8 (yxf _) hb.1,e1⟩,fun t ht=>?_,fun cs hc=>?_⟩
  ·cases t with
   |cons ta tb=>simp only[confB,yyc] at ht ⊢;exact⟨ht.1,e2 _ ht.2⟩
   |arr m e=>
    cases m with
    |zero=>simp[confB] at ht
    |succ m=>simp only[confB,yyc] at ht ⊢;exact⟨ht.1,e2 _ ht.2⟩
   |_=>simp[confB] at ht
  ·simp only[AV.rc] at hc ⊢;obtain⟨c1,c2,k1,k2,k3⟩:=hc;exact⟨c1,c2,y7 (Mem.le_refl M) (q0m ρ n e) hb.1 k1,e3 _ k2,k3⟩
 |case4=>cases h
variable{c:Code}{v v':AV}
def j06(m:Nat)(p:List Bool)(eid:TypeId)(e:Ty){t:Ty}(hm:lk s.H m=some (.cell t v))(hv:ghP s.nx v p=some v')
  (k:JC X c QA ⟨s.L,updH ((s.nx,.sl eid e [])::s.H) m (.cell t v'),s.nx+1⟩):JC X c QA s:=fun M ρ a w h1 h2=>by
 have g1:=h1.ghost eid e;have hr:=q0m ρ s.nx e;have g2:REG X M (ρ.nilAt s.nx e) ⟨s.L,updH ((s.nx,.sl eid e [])::s.H) m (.cell t v'),s.nx+1⟩ a:=by have:=h2.grow (H':=updH ((s.nx,.sl eid e [])::s.H) m (.cell t v')) (nx':=s.nx+1) (Mem.le_refl M) hr (yxf _) (u9 M);exact this
 obtain⟨o1,o2,o3⟩:=h1.own m _ hm;have ha:lk ((s.nx,HO.sl eid e [])::s.H) m=some (.cell t v):=by simp only[lk];rw[if_neg (by omega)];exact hm
 obtain⟨q1,q2,q3⟩:=g1.own m _ ha;obtain⟨b1,b2,b3⟩:=z8w (M:=M) (ρ:=ρ) (e:=e) hv o2;refine k M _ a w (g1.upd ha (r7 w _) rfl b1 ?_) g2;simp only[HO.ok] at q3 o3 ⊢;obtain⟨r1,r2,r3,c,ty,r4,r5⟩:=q3;obtain⟨u1,u2,u3,c',ty',u4,u5⟩:=o3;refine⟨r1,b2 t r2,r3,c,ty,r4,?_⟩;have:w.heap[ρ.blk m]?=some (.cells c ty (0,0)):=by simpa[Env.nilAt] using r4
 rw[this] at u4;injection u4 with u4;injection u4 with u4 u4';subst u4
 exact b3 _ u5
variable{r:List Fr}
def c9(m:Nat)(p:List Bool)(eid:TypeId)(e:Ty){t:Ty}(hm:lk s.H m=some (.cell t v))(hv:ghP s.nx v p=some v')
  (k:JK X (.code c::r) QA ⟨s.L,updH ((s.nx,.sl eid e [])::s.H) m (.cell t v'),s.nx+1⟩):JK X (.code c::r) QA s:=j06 m p eid e hm hv k
def toV:(t:Ty)→AV→Option t.den
 |t,.val t' x=>if h:t'=t then some (h▸x) else none
 |.cons a b,.mix x y=>(toV a x).bind fun u=>(toV b y).map fun v=>(u,v)
 |.arr (n+1) e,.mix x y=>(toV e x).bind fun u=>(toV (.arr n e) y).map fun v=>(u::v:List e.den)
 |.slice _,.lf .nils=>some []
 |_,_=>none
def toV_rc:∀ {v:AV} {t:Ty} {x:t.den} {cs:List Value},toV t v=some x→v.rc M ρ cs→Rep M t x cs:=by
 intro v;induction v with
 |val t' y=>
  intro t x cs h hr;simp only[toV] at h;split at h
  ·rename_i e;subst e;injection h with h;subst h;simpa only[AV.rc] using hr
  ·cases h
 |mix a b iha ihb=>
  intro t x cs h hr;simp only[AV.rc] at hr;obtain⟨c1,c2,r1,r2,rfl⟩:=hr;cases t with
  |cons ta tb=>simp only[toV,yyn,yyk] at h;obtain⟨u,hu,v,hv,rfl⟩:=h;simp only[Rep];exact⟨c1,c2,rfl,iha hu r1,ihb hv r2⟩
  |arr n e=>
   cases n with
   |zero=>simp[toV] at h
   |succ n=>simp only[toV,yyn,yyk] at h;obtain⟨u,hu,v,hv,rfl⟩:=h;have e1:=iha hu r1;have e2:=ihb hv r2;rw[q1j] at e2 ⊢;obtain⟨f1,f2⟩:=e2;exact⟨by simp[f1],RL.append (l:=[u]) (m:=v) (q46 e1) f2⟩
  |_=>simp[toV] at h
 |lf y=>
  intro t x cs h hr;cases t<;>cases y<;>simp only[toV,reduceCtorEq,yya] at h
  subst h;simp only[AV.rc,Leaf.at] at hr;obtain⟨v,h1,_,rfl⟩:=hr;injection h1 with h1;subst h1
  exact w6 M (.slice _)
 |fn f a c _ _=>intro t x cs h hr;cases t<;>simp[toV] at h
 |_=>intro t x cs h hr;simp only[AV.rc] at hr
def JC.cellV(m:Nat){t:Ty}{x:t.den}(hm:lk s.H m=some (.cell t v))(hv:toV t v=some x)(k:JC X c QA ⟨s.L,updH s.H m (.cell t (.val t x)),s.nx⟩):JC X c QA s:=fun M ρ a w h1 h2=>by obtain⟨o1,o2,o3⟩:=h1.own m _ hm;refine k M ρ a w (h1.upd hm (r7 w _) rfl trivial ?_) ⟨h2.size,h2.defers,h2.reg⟩;simp only[HO.ok] at o3 ⊢;obtain⟨r1,r2,r3,c,ty,r4,r5⟩:=o3;exact⟨r1,by simp[confB],r3,c,ty,r4,by simp only[AV.rc];exact toV_rc hv r5⟩
def z4u(m:Nat){t:Ty}{x:t.den}(hm:lk s.H m=some (.cell t v))(hv:toV t v=some x)(k:JK X (.code c::r) QA ⟨s.L,updH s.H m (.cell t (.val t x)),s.nx⟩):JK X (.code c::r) QA s:=JC.cellV m hm hv k
def subH_del:∀ {H:List (Nat×HO)} {m:Nat},subH H (del H m):=fun l o h=>by
 rw[q3u] at h;split at h
 ·cases h
 ·exact h
def JL.cutS{xs:List e.den}(hd:lk L d=some (.lf (.ovw m 0 hi false)))(hl:lk H m=some (.sl eid e xs))(k:JL X true all QA l ⟨(d,.lf (.osl nx))::L,(nx,.sl eid e (xs.take hi))::del H m,nx+1⟩)(ha:hi≤xs.length):JL X true all QA l ⟨L,H,nx⟩:=q1t (j0l hd hl ha (fun _ _ h=>h) subH_del (by rw[q3u,if_pos rfl])) k
end Ox
namespace Ox.St
def lnS(s:Int):Nat:=s.natAbs-1
variable (X:Nat→Nat→Bool)
def ext(s:Int)(k:Nat):List Int:=if k=lnS s then [s] else if X (lnS s) k then [0] else []
def layR(R:Nat→List Int)(s:Int):Nat→List Int:=fun k=>
 if k≠lnS s∧X (lnS s) k=false then R k
 else if (R (lnS s)).getLast?=some (-s) then(R k).dropLast
 else if k=lnS s then R k++[s] else R k++[0]
def bld:List Int→Nat→List Int
 |[],_=>[]
 |t::r,k=>bld r k++ext X t k
variable {X:Nat→Nat→Bool}(hs:∀ i j,X i j=X j i)
def z2n(s:Int):ext X s (lnS s)=[s]:=by simp[ext]
def q5j(s:Int):lnS (-s)=lnS s:=by simp[lnS]
def lay_no(h:(R (lnS s)).getLast?≠some (-s)):layR X R s=fun k=>R k++ext X s k:=by
 funext k;unfold layR ext;by_cases h1:k=lnS s
 ·rw[if_neg (by simp[h1]),if_neg h,if_pos h1,if_pos h1]
 ·cases h2:X (lnS s) k
  ·simp[h1]
  ·simp[h1,h]
def lay_of{R R':Nat→List Int}(h:∀ k,R k=R' k++ext X (-s) k):layR X R s=R':=by
 funext k;have hl:(R (lnS s)).getLast?=some (-s):=by rw[h,← q5j s,z2n];simp
 unfold layR;by_cases h1:k=lnS s
 ·rw[if_neg (by simp[h1]),if_pos hl,h,h1,← q5j s,z2n];simp
 ·cases h2:X (lnS s) k
  ·simp[h1,h,ext,q5j,h2]
  ·simp only[h1,ne_eq,not_false_eq_true,true_and,Bool.true_eq_false,if_false,hl,if_true];rw[h];simp[ext,q5j,h1,h2]
def Adj:List Int→Prop
 |x::y::r=>¬ (x≠0∧y=-x)∧Adj (y::r)
 |_=>True
def Adj.app:∀ {r:List Int} {y:Int},Adj r→(∀ x,r.getLast?=some x→¬ (x≠0∧y=-x))→Adj (r++[y])
 |[],_,_,_=>trivial
 |[x],y,_,h=>⟨h x rfl,trivial⟩
 |x::z::r,y,h,k=>⟨h.1,Adj.app (r:=z::r) h.2 fun w hw=>k w (by rw[List.getLast?_cons_cons];exact hw)⟩
def Adj.left:∀ {r q:List Int},Adj (r++q)→Adj r
 |[],_,_=>trivial
 |[x],_,_=>trivial
 |x::z::r,q,h=>⟨h.1,Adj.left (r:=z::r) (q:=q) h.2⟩
def Adj.last:∀ {r:List Int} {x y:Int},Adj (r++[y])→r.getLast?=some x→¬ (x≠0∧y=-x)
 |[],_,_,_,h=>by cases h
 |[z],x,y,h,hx=>by simp at hx;subst hx;exact h.1
 |z::w::r,x,y,h,hx=>Adj.last (r:=w::r) h.2 (by rw[List.getLast?_cons_cons] at hx;exact hx)
structure Pile(X:Nat→Nat→Bool)(rv:List Int)(R:Nat→List Int):Prop where
 eq:R=bld X rv
 nz:∀ t∈rv,t≠0
 adj:∀ k,Adj (R k)
def Pile.nil:Pile X [] (fun _=>[]):=⟨by funext k;rfl,fun _ h=>absurd h yxe,fun _=>trivial⟩
def z4e(hs:∀ i j,X i j=X j i){s:Int}(ha:s≠0):∀ {rv:List Int},(∀ t∈rv,t≠0)→(bld X rv (lnS s)).getLast?=some (-s) →
  ∃ r1 r2,rv=r1++-s::r2∧(∀ t∈r1,lnS t≠lnS s∧X (lnS t) (lnS s)=false)∧∀ k,bld X rv k=bld X (r1++r2) k++ext X (-s) k
 |[],_,h=>by simp[bld] at h
 |t::r,hn,h=>by
  simp only[bld] at h;by_cases h1:lnS s=lnS t
  ·have:ext X t (lnS s)=[t]:=by simp[ext,h1]
   rw[this] at h;simp at h;subst h;exact⟨[],r,rfl,fun _ h=>absurd h yxe,fun k=>rfl⟩
  ·cases h2:X (lnS t) (lnS s)
   ·have:ext X t (lnS s)=[]:=by simp[ext,h1,h2]
    rw[this,yxb] at h;obtain⟨r1,r2,e1,e2,e3⟩:=z4e hs ha (fun x hx=>hn x (yyi _ hx)) h;refine⟨t::r1,r2,by rw[e1];rfl,fun x hx=>?_,fun k=>?_⟩
    ·rcases yym.1 hx with rfl|hx
     ·exact⟨fun e=>h1 e.symm,h2⟩
     ·exact e2 x hx
    ·show bld X r k++ext X t k=(bld X (r1++r2) k++ext X t k)++ext X (-s) k;rw[e3 k,yxj,yxj];congr 1;unfold ext;rw[q5j];by_cases k1:k=lnS s
     ·rw[if_pos k1,k1,if_neg h1,h2];simp
     ·rw[if_neg k1];by_cases k2:k=lnS t
      ·rw[if_pos k2,k2,hs (lnS s) (lnS t),h2];simp
      ·rw[if_neg k2];cases X (lnS s) k<;>cases X (lnS t) k<;>rfl
   ·have:ext X t (lnS s)=[0]:=by simp[ext,h1,h2]
    rw[this] at h;simp at h;omega
def Pile.undo(hs:∀ i j,X i j=X j i)(h:Pile X rv R)(ha:s≠0)(hu:(R (lnS s)).getLast?=some (-s)) :
  ∃ r1 r2,rv=r1++-s::r2∧(∀ t∈r1,lnS t≠lnS s∧X (lnS t) (lnS s)=false)∧Pile X (r1++r2) (layR X R s)∧∀ k,R k=layR X R s k++ext X (-s) k:=by
 obtain⟨r1,r2,e1,e2,e3⟩:=z4e hs ha h.nz (by rw[← h.eq];exact hu);have e4:∀ k,R k=bld X (r1++r2) k++ext X (-s) k:=fun k=>by rw[h.eq];exact e3 k
 have e5:=lay_of e4;refine⟨r1,r2,e1,e2,⟨e5,fun t ht=>h.nz t ?_,fun k=>?_⟩,fun k=>by rw[e5];exact e4 k⟩
 ·rw[e1];rcases yy3.1 ht with ht|ht
  ·exact yxw _ ht
  ·exact List.mem_append_right _ (yyi _ ht)
 ·rw[e5];have:=h.adj k;rw[e4 k] at this;exact this.left
def Pile.put(h:Pile X rv R)(ha:s≠0)(hu:(R (lnS s)).getLast?≠some (-s)) :
  Pile X (s::rv) (layR X R s)∧∀ k,layR X R s k=R k++ext X s k:=by
 have e:=lay_no (X:=X) hu;refine⟨⟨?_,fun t ht=>?_,fun k=>?_⟩,fun k=>by rw[e]⟩
 ·rw[e,h.eq];rfl
 ·rcases yym.1 ht with rfl|ht
  ·exact ha
  ·exact h.nz t ht
 ·rw[e];show Adj (R k++ext X s k);have hk:=h.adj k;unfold ext;split
  ·rename_i h1;refine hk.app fun x hx ⟨_,hy⟩=>hu ?_;rw[← h1,hx,hy,Int.neg_neg]
  ·split
   ·exact hk.app fun x hx ⟨h1,hy⟩=>by omega
   ·rw[yxb];exact hk
def layL(R:Nat→List Int)(u:List Int):Nat→List Int:=u.foldl (layR X) R
def Pile.lay(hs:∀ i j,X i j=X j i)(h:Pile X rv R)(ha:s≠0):∃ rv',Pile X rv' (layR X R s)∧rv'.length≤rv.length+1∧∀ t∈rv',t=s∨t∈rv:=by
 by_cases hu:(R (lnS s)).getLast?=some (-s)
 ·obtain⟨r1,r2,e1,_,e2,_⟩:=h.undo hs ha hu;refine⟨_,e2,by rw[e1];simp;omega,fun t ht=>.inr ?_⟩;rw[e1];rcases yy3.1 ht with ht|ht
  ·exact yxw _ ht
  ·exact List.mem_append_right _ (yyi _ ht)
 ·exact⟨_,(h.put ha hu).1,by simp,fun t ht=>yym.1 ht⟩
def Pile.layL(hs:∀ i j,X i j=X j i):∀ {u rv:List Int} {R:Nat→List Int},Pile X rv R→(∀ s∈u,s≠0)→∃ rv',Pile X rv' (Ox.St.layL (X:=X) R u)∧rv'.length≤rv.length+u.length∧∀ t∈rv',t∈u∨t∈rv
 |[],rv,R,h,_=>⟨rv,h,by simp,fun t ht=>.inr ht⟩
 |s::u,rv,R,h,hn=>by
  obtain⟨rv1,h1,h2,h4⟩:=h.lay hs (hn s yyh);obtain⟨rv2,h3,h5,h6⟩:=Pile.layL hs (u:=u) h1 fun x hx=>hn x (yyi _ hx);refine⟨rv2,h3,by rw[List.length_cons];omega,fun t ht=>?_⟩;rcases h6 t ht with h|h
  ·exact .inl (yyi _ h)
  ·rcases h4 t h with h|h
   ·exact .inl (h▸yyh)
   ·exact .inr h
def Eqv(X:Nat→Nat→Bool)(u v:List Int):Prop:=∀ rv R,Pile X rv R→layL (X:=X) R u=layL (X:=X) R v
def Nz(u:List Int):Prop:=∀ s∈u,s≠0
def q4o(R:Nat→List Int)(u v:List Int):layL (X:=X) R (u++v)=layL (X:=X) (layL (X:=X) R u) v:=List.foldl_append ..
def Eqv.symm{u v:List Int}(h:Eqv X u v):Eqv X v u:=fun rv R p=>(h rv R p).symm
def Eqv.app(hs:∀ i j,X i j=X j i){u v:List Int}(h:Eqv X u v){x:List Int}(hx:Nz x)(y:List Int):Eqv X (x++u++y) (x++v++y):=fun rv R p=>by obtain⟨rv',p',_⟩:=p.layL hs hx;rw[q4o,q4o,q4o,q4o,h _ _ p']
def z9u(a b:List Int)(k:Nat):bld X (a++b) k=bld X b k++bld X a k:=by
 induction a with
 |nil=>simp[bld]
 |cons t a ih=>rw[List.cons_append];simp only[bld];rw[ih,yxj]
def q9p{y:Int}(h:y∈bld X rv k)(hy:y≠0):lnS y=k∧y∈rv:=by
 induction rv with
 |nil=>simp[bld] at h
 |cons t r ih=>
  simp only[bld,yy3] at h;rcases h with h|h
  ·exact⟨(ih h).1,yyi _ (ih h).2⟩
  ·unfold ext at h;split at h
   ·rename_i e;rw[yy0.1 h];exact⟨e.symm,yyh⟩
   ·split at h
    ·exact absurd (yy0.1 h) hy
    ·simp at h
def bld_off(h:bld X rv k=[]):∀ t∈rv,lnS t≠k∧X (lnS t) k=false:=by
 induction rv with
 |nil=>exact fun _ h=>absurd h yxe
 |cons t r ih=>
  simp only[bld,List.append_eq_nil_iff] at h;intro x hx;rcases yym.1 hx with rfl|hx
  ·have h2:=h.2;unfold ext at h2;by_cases e:k=lnS x
   ·rw[if_pos e] at h2;simp at h2
   ·rw[if_neg e] at h2;refine⟨fun q=>e q.symm,?_⟩;cases hX:X (lnS x) k
    ·rfl
    ·rw[hX] at h2;simp at h2
  ·exact ih h.1 x hx
def q7w:∀ {l:List Int},(∀ y∈l,y=0)→l++[0]=0::l
 |[],_=>rfl
 |x::r,h=>by rw[h x yyh,List.cons_append,q7w fun y hy=>h y (yyi _ hy)]
def z02(hs:∀ i j,X i j=X j i){s:Int}(ha:s≠0):∀ {rv:List Int},(∀ t∈rv,t≠0)→(bld X rv (lnS s)).head?=some s →
  ∃ r1 r2,rv=r1++s::r2∧(∀ t∈r2,lnS t≠lnS s∧X (lnS t) (lnS s)=false)∧∀ k,bld X rv k=ext X s k++bld X (r1++r2) k
 |[],_,h=>by simp[bld] at h
 |t::r,hn,h=>by
  by_cases hr:bld X r (lnS s)=[]
  ·simp only[bld,hr,List.nil_append] at h;unfold ext at h;split at h
   ·simp at h;subst h;have ho:=bld_off hr;refine⟨[],r,rfl,ho,fun k=>?_⟩;simp only[bld,List.nil_append];unfold ext;by_cases h1:k=lnS t
    ·rw[if_pos h1,h1,hr];rfl
    ·rw[if_neg h1];cases h2:X (lnS t) k
     ·simp
     ·simp only[if_true];exact q7w fun y hy=>yxy fun hd=>by obtain⟨q1,q2⟩:=q9p hy hd;have q3:=(ho y q2).2;rw[q1,hs,h2] at q3;cases q3
   ·split at h
    ·simp at h;omega
    ·simp at h
  ·have h':(bld X r (lnS s)).head?=some s:=by
    simp only[bld] at h;cases hb:bld X r (lnS s) with
    |nil=>exact absurd hb hr
    |cons x y=>rw[hb] at h;simpa using h
   obtain⟨r1,r2,e1,e2,e3⟩:=z02 hs ha (fun x hx=>hn x (yyi _ hx)) h';refine⟨t::r1,r2,by rw[e1];rfl,e2,fun k=>?_⟩;simp only[bld,List.cons_append];rw[e3 k,yxj]
def takeR(X:Nat→Nat→Bool)(R:Nat→List Int)(s:Int):Nat→List Int:=fun k=>if k=lnS s∨X (lnS s) k=true then(R k).drop 1 else R k
def Adj.tail{x:Int}(h:Adj (x::r)):Adj r:=by
 cases r with
 |nil=>trivial
 |cons y r=>exact h.2
def Pile.take(hs:∀ i j,X i j=X j i)(h:Pile X rv R)(ha:s≠0)(hf:(R (lnS s)).head?=some s) :
  ∃ r1 r2,rv=r1++s::r2∧(∀ t∈r2,lnS t≠lnS s∧X (lnS t) (lnS s)=false)∧Pile X (r1++r2) (takeR X R s)∧∀ k,R k=ext X s k++takeR X R s k:=by
 obtain⟨r1,r2,e1,e2,e3⟩:=z02 hs ha h.nz (by rw[← h.eq];exact hf);have e4:∀ k,R k=ext X s k++bld X (r1++r2) k:=fun k=>by rw[h.eq];exact e3 k
 have e5:takeR X R s=bld X (r1++r2):=by
  funext k;unfold takeR;by_cases h1:k=lnS s
  ·rw[if_pos (.inl h1),e4 k];simp[ext,h1]
  ·cases h2:X (lnS s) k
   ·rw[if_neg (by simp[h1]),e4 k];simp[ext,h1,h2]
   ·rw[if_pos (.inr rfl),e4 k];simp[ext,h1,h2]
 refine⟨r1,r2,e1,e2,⟨e5,fun t ht=>h.nz t ?_,fun k=>?_⟩,fun k=>by rw[e5];exact e4 k⟩
 ·rw[e1];rcases yy3.1 ht with ht|ht
  ·exact yxw _ ht
  ·exact List.mem_append_right _ (yyi _ ht)
 ·rw[e5];have:=h.adj k;rw[e4 k] at this;unfold ext at this;split at this
  ·exact this.tail
  ·split at this
   ·exact this.tail
   ·exact this
def frontK(r:List Int):List Int:=match r with
 |s::_=>if s=0 then [] else [s]
 |[]=>[]
def frontsN(R:Nat→List Int):Nat→List Int
 |0=>[]
 |n+1=>frontsN R n++frontK (R n)
def frontsR(R:Nat→List Int):List Int:=frontsN R 8
def q32{R:Nat→List Int}{s:Int}:∀ {n:Nat},s∈frontsN R n↔∃ k,k<n∧s≠0∧(R k).head?=some s
 |0=>by simp[frontsN]
 |n+1=>by
  simp only[frontsN,yy3,q32 (n:=n)];constructor
  ·rintro(⟨k,h1,h2⟩|h)
   ·exact⟨k,by omega,h2⟩
   ·refine⟨n,yxd n,?_⟩;unfold frontK at h;split at h
    ·rename_i x y e;split at h
     ·simp at h
     ·rename_i h0;rw[yy0.1 h];exact⟨h0,by rw[e];rfl⟩
    ·simp at h
  ·rintro⟨k,h1,h2,h3⟩;rcases Nat.lt_or_ge k n with h|h
   ·exact .inl ⟨k,h,h2,h3⟩
   ·obtain rfl:k=n:=by omega
    right;cases hR:R k with
    |nil=>rw[hR] at h3;simp at h3
    |cons x y=>rw[hR] at h3;simp at h3;subst h3;simp[frontK,h2]
def Pile.front(h:Pile X rv R)(hm:s∈frontsR R):s≠0∧(R (lnS s)).head?=some s∧s∈rv:=by obtain⟨k,h1,h2,h3⟩:=q32.1 hm;have hk:s∈R k:=List.mem_of_head? h3;rw[h.eq] at hk;obtain⟨e1,e2⟩:=q9p hk h2;rw[e1];exact⟨h2,h3,e2⟩
def Pile.none(h:Pile X rv R)(hb:∀ t∈rv,lnS t<8)(hf:frontsR R=[]):rv=[]:=by
 rcases List.eq_nil_or_concat rv with h0|⟨r,t,h0⟩
 ·exact h0
 ·exfalso;have h0:rv=r++[t]:=by simpa using h0
  have ht:t∈rv:=by rw[h0];simp
  have h1:R (lnS t)=t::bld X r (lnS t):=by rw[h.eq,h0,z9u];simp[bld,ext]
  have:t∈frontsR R:=q32.2 ⟨lnS t,hb t ht,h.nz t ht,by rw[h1];rfl⟩;rw[hf] at this;simp at this
def rowsD(R:Nat→List Int):List (List Int):=(List.range 8).map R
def z6q(R:Nat→List Int):(rowsD R).length=8:=by simp[rowsD]
def q94(R:Nat→List Int)(h:k<8)(d:List Int):(rowsD R).getD k d=R k:=by simp[rowsD,yyp,List.getElem?_map,List.getElem?_range h]
def z6p(R:Nat→List Int)(h:k<8)(y:List Int):(rowsD R).set k y=rowsD (fun j=>if j=k then y else R j):=by
 apply List.ext_getElem
 ·simp[rowsD]
 ·intro i h1 h2;simp only[rowsD,List.getElem_set,List.getElem_map,List.getElem_range];by_cases e:k=i
  ·rw[if_pos e,if_pos e.symm]
  ·rw[if_neg e,if_neg fun q=>e q.symm]
end Ox.St
namespace Ox.Gl
open Ox.St
def stk(c:Nat):Int:=(c:Int)+1
def u0(c:Nat):lnS (stk c)=c:=by unfold lnS stk;omega
def stk_of{t:Int}(h:0<t):t=stk (lnS t):=by unfold lnS stk;omega
variable {P:Nat→Nat→Bool}{n:Nat}
def crsP(P:Nat→Nat→Bool):Nat→Nat→Bool:=fun i j=>P i j||P j i
def q9m(i j:Nat):crsP P i j=crsP P j i:=by unfold crsP;rw[Bool.or_comm]
structure PQ(P:Nat→Nat→Bool)(n:Nat)(q:List Nat)(rv:List Int)(R:Nat→List Int):Prop where
 pile:Pile (crsP P) rv R
 pos:∀ t∈rv,0<t∧lnS t<n
 ne:rv.Pairwise fun x y=>lnS x≠lnS y
 lin:rv.Pairwise fun x y=>P (lnS x) (lnS y)=false
 mem:∀ c,c<n→(stk c∈rv↔c∉q)
def z4f{X:Nat→Nat→Bool}{k:Nat}:∀ {r:List Int},(∀ t∈r,lnS t≠k∧X (lnS t) k=false)→bld X r k=[]
 |[],_=>rfl
 |t::r,h=>by have h1:=h t yyh;simp only[bld,z4f fun y hy=>h y (yyi _ hy),List.nil_append,ext];rw[if_neg (fun e=>h1.1 e.symm),h1.2];rfl
def head_of{r1 r2:List Int}(h:Pile X (r1++s::r2) R)(h2:∀ t∈r2,lnS t≠lnS s∧X (lnS t) (lnS s)=false):(R (lnS s)).head?=some s:=by rw[h.eq,z9u];simp only[bld,z4f h2,List.nil_append,z2n];rfl
variable{q:List Nat}
def PQ.front_iff(hi:∀ a,P a a=false)(h:PQ P n q rv R)(hc:c<n) :
  (R c).head?=some (stk c)↔okc P n q c=true:=by
 rw[n8];constructor
 ·intro hf;have hh:(R (lnS (stk c))).head?=some (stk c):=by rw[u0];exact hf
  obtain⟨r1,r2,e1,e2,-,-⟩:=h.pile.take q9m (by unfold stk;omega) hh;have hm:stk c∈rv:=by rw[e1];simp
  refine⟨(h.mem c hc).1 hm,fun a ha hp=>yxy fun hq=>?_⟩;have hd:=(h.mem a ha).2 hq;rw[e1] at hd;rcases yy3.1 hd with h1|h1
  ·have hl:=h.lin;rw[e1,List.pairwise_append] at hl;have:=hl.2.2 _ h1 _ yyh;rw[u0,u0,hp] at this;cases this
  ·rcases yym.1 h1 with h1|h1
   ·have:a=c:=by unfold stk at h1;omega
    subst this;rw[hi] at hp;cases hp
   ·have:=(e2 _ h1).2;rw[u0,u0] at this;unfold crsP at this;rw[hp] at this;simp at this
 ·intro⟨h1,h2⟩;have hm:=(h.mem c hc).2 h1;obtain⟨r1,r2,e⟩:=List.append_of_mem hm;have hp:=h.pile;have hb:=h.ne;have hl:=h.lin;rw[e] at hp hb hl;rw[List.pairwise_append] at hb hl;have:=head_of hp (fun t ht=>by
   have k1:=(List.pairwise_cons.1 hb.2.1).1 t ht;have k2:=(List.pairwise_cons.1 hl.2.1).1 t ht;have he:t∈rv:=by rw[e];simp[ht]
   obtain⟨p1,p2⟩:=h.pos t he;refine⟨fun e=>k1 e.symm,?_⟩;unfold crsP;rw[k2,Bool.or_false];cases hg:P (lnS t) (lnS (stk c))
   ·rfl
   ·rw[u0] at hg;have:=h2 _ p2 hg;exact absurd this ((h.mem _ p2).1 (by rw[← stk_of p1];exact he)))
  rw[u0] at this;exact this
def PQ.row(hi:∀ a,P a a=false)(h:PQ P n q rv R)(c:Nat) :
  frontK (R c)=if c<n∧okc P n q c=true then [stk c] else []:=by
 split
 ·rename_i k;have:=(h.front_iff hi k.1).2 k.2;cases hR:R c with
  |nil=>rw[hR] at this;cases this
  |cons x r=>rw[hR] at this;simp at this;subst this;simp[frontK,show stk c≠0 by unfold stk;omega]
 ·rename_i k;cases hR:R c with
  |nil=>rfl
  |cons x r=>
   by_cases h0:x=0
   ·simp[frontK,h0]
   ·exfalso;have hk:x∈bld (crsP P) rv c:=by rw[← h.pile.eq,hR];simp
    obtain⟨e1,e2⟩:=q9p hk h0;obtain⟨p1,p2⟩:=h.pos x e2;have e3:=stk_of p1;rw[e1] at e3 p2;exact k ⟨p2,(h.front_iff hi p2).1 (by rw[hR,e3];rfl)⟩
def PQ.frontsN(hi:∀ a,P a a=false){q:List Nat}{rv:List Int}{R:Nat→List Int}(h:PQ P n q rv R):∀ m,frontsN R m=((List.range m).filter fun c=>decide (c<n∧okc P n q c=true)).map stk
 |0=>rfl
 |m+1=>by
  rw[St.frontsN,PQ.frontsN hi h m,h.row hi,List.range_succ,List.filter_append,yx0];congr 1;by_cases k:m<n∧okc P n q m=true
  ·simp[k]
  ·rw[if_neg k,yx8 (by simpa using k)];rfl
def z60{p:Nat→Bool}:∀ {m:Nat},n≤m→(List.range m).filter (fun c=>decide (c<n∧p c=true))=(List.range n).filter p:=by
 intro m hm;obtain⟨d,rfl⟩:=Nat.exists_eq_add_of_le hm;rw[List.range_add,List.filter_append];have h1:(List.range n).filter (fun c=>decide (c<n∧p c=true))=(List.range n).filter p:=List.filter_congr fun c hc=>by have:=yyr.1 hc;simp[this]
 have h2:((List.range d).map (n+·)).filter (fun c=>decide (c<n∧p c=true))=[]:=by rw[List.filter_eq_nil_iff];intro c hc;obtain⟨i,-,rfl⟩:=yxc.1 hc;simp;omega
 rw[h1,h2,yxb]
def PQ.fronts(hi:∀ a,P a a=false)(hn:n≤8)(h:PQ P n q rv R):frontsR R=((List.range n).filter (okc P n q)).map stk:=by unfold frontsR;rw[h.frontsN hi,z60 hn]
def PQ.take(hi:∀ a,P a a=false){q:List Nat}{rv:List Int}{R:Nat→List Int}(h:PQ P n q rv R){c:Nat}(hc:c<n)(ho:okc P n q c=true) :
  ∃ rv',PQ P n (q++[c]) rv' (takeR (crsP P) R (stk c)):=by
 have hf:=(h.front_iff hi hc).2 ho;have he:(R (lnS (stk c))).head?=some (stk c):=by rw[u0];exact hf
 obtain⟨r1,r2,e1,e2,e3,-⟩:=h.pile.take q9m (by unfold stk;omega) he;have hb:(r1++r2).Sublist rv:=by rw[e1];exact List.Sublist.append_left (List.sublist_cons_self _ _) _
 refine⟨r1++r2,e3,fun t ht=>h.pos t (hb.subset ht),h.ne.sublist hb,h.lin.sublist hb,fun a ha=>?_⟩;have hd:=h.ne;rw[e1,List.pairwise_append] at hd;have hx:∀ t,t∈r1++r2↔t∈rv∧lnS t≠c:=by
  intro t;rw[e1];constructor
  ·intro ht;refine⟨?_,?_⟩
   ·rcases yy3.1 ht with k|k<;>simp[k]
   ·rcases yy3.1 ht with k|k
    ·have:=hd.2.2 t k _ yyh;rw[u0] at this;exact this
    ·have:=(List.pairwise_cons.1 hd.2.1).1 t k;rw[u0] at this;exact fun e=>this e.symm
  ·intro⟨ht,k⟩;rcases yy3.1 ht with j|j
   ·simp[j]
   ·rcases yym.1 j with j|j
    ·subst j;rw[u0] at k;exact absurd rfl k
    ·simp[j]
 rw[hx,h.mem a ha,u0];simp
def z3w{X:Nat→Nat→Bool}{k:Nat}:∀ {r:List Int},(∀ t∈r,0<t)→∀ y∈bld X r k,0≤y
 |[],_,y,hy=>by simp[bld] at hy
 |t::r,h,y,hy=>by
  simp only[bld] at hy;rcases yy3.1 hy with hy|hy
  ·exact z3w (fun z hz=>h z (yyi _ hz)) y hy
  ·have:=h t yyh;unfold ext at hy;split at hy
   ·simp at hy;omega
   ·split at hy
    ·simp at hy;omega
    ·simp at hy
def z3v{X:Nat→Nat→Bool}:∀ (u:List Int) {rv:List Int} {R:Nat→List Int},Pile X rv R→(∀ t∈rv,0<t)→(∀ t∈u,0<t)→Pile X (u.reverse++rv) (layL (X:=X) R u)
 |[],_,_,h,_,_=>h
 |s::u,rv,R,h,h1,h2=>by
  have hs:=h2 s yyh;have hu:(R (lnS s)).getLast?≠some (-s):=by intro e;have:=List.mem_of_getLast? e;rw[h.eq] at this;have:=z3w h1 _ this;omega
  have h3:=(h.put (by omega) hu).1;have:=z3v u h3 (fun t ht=>by
   rcases yym.1 ht with e|ht
   ·rw[e];exact hs
   ·exact h1 t ht) fun t ht=>h2 t (yyi _ ht)
  simpa[layL] using this
def PQ.start(hp:o.Perm (List.range n))(hl:o.Pairwise fun x y=>P y x=false):PQ P n [] (o.map stk).reverse (layL (X:=crsP P) (fun _=>[]) (o.map stk)):=by
 have h0:∀ t∈o.map stk,0<t∧lnS t<n:=fun t ht=>by obtain⟨c,hc,rfl⟩:=yxc.1 ht;rw[u0];exact⟨by unfold stk;omega,yyr.1 (hp.mem_iff.1 hc)⟩
 have h1:=z3v (o.map stk) (Pile.nil (X:=crsP P)) (by simp) fun t ht=>(h0 t ht).1;rw[yxb] at h1;refine⟨h1,fun t ht=>h0 t (List.mem_reverse.1 ht),?_,?_,fun c hc=>?_⟩
 ·rw[List.pairwise_reverse,List.pairwise_map];exact(hp.nodup_iff.2 List.nodup_range).imp fun h=>by rw[u0,u0];exact fun e=>h e.symm
 ·rw[List.pairwise_reverse,List.pairwise_map];exact hl.imp fun h=>by rw[u0,u0];exact h
 ·rw[List.mem_reverse,yxc];simp only[yxe,not_false_eq_true,iff_true];exact⟨c,hp.mem_iff.2 (yyr.2 hc),rfl⟩
def roundsR(X:Nat→Nat→Bool):Nat→(Nat→List Int)→List (List Int)
 |0,_=>[]
 |m+1,R=>match frontsR R with
  |[]=>[]
  |s::r=>(s::r)::roundsR X m ((s::r).foldl (takeR X) R)
def PQ.takes(hi:∀ a,P a a=false):∀ (cs:List Nat) {q:List Nat} {rv:List Int} {R:Nat→List Int},PQ P n q rv R→(∀ c∈cs,c<n∧okc P n q c=true)→cs.Nodup →
  ∃ rv',PQ P n (q++cs) rv' ((cs.map stk).foldl (takeR (crsP P)) R)
 |[],q,rv,R,h,_,_=>⟨rv,by simpa using h⟩
 |c::cs,q,rv,R,h,hc,hn=>by
  obtain⟨h1,h2⟩:=hc c yyh;obtain⟨rv',h'⟩:=h.take hi h1 h2;obtain⟨k1,k2⟩:=yxu.1 hn;obtain⟨rv'',hb⟩:=PQ.takes hi cs h' (fun d hd=>by
   obtain⟨j1,j2⟩:=hc d (yyi _ hd);obtain⟨i1,i2⟩:=n8.1 j2;refine⟨j1,n8.2 ⟨fun e=>?_,fun a ha hp=>yxw _ (i2 a ha hp)⟩⟩;rcases yy3.1 e with e|e
   ·exact i1 e
   ·rw[yy0.1 e] at hd;exact k1 hd) k2
  exact⟨rv'',by simpa using hb⟩
end Ox.Gl
namespace Ox.Gl
variable {P:Nat→Nat→Bool}{n:Nat}
structure Sch(P:Nat→Nat→Bool)(n:Nat)(p:Nat→Int):Prop where
 inj:∀ a c,a<n→c<n→p a=p c→a=c
 lt:∀ a c,a<n→c<n→P a c=true→p a+1≤p c
def Bnd(n:Nat)(p L U:Nat→Int):Prop:=∀ c,c<n→L c≤p c∧p c≤U c
def Bnd.step{p L U:Nat→Int}(h:Sch P n p)(hb:Bnd n p L U)(ha:a<n)(hc:c<n)(hp:P a c=true) :
  Bnd n p (fun x=>if x=c then max (L c) (L a+1) else L x) (fun x=>if x=a then min (U a) (U c-1) else U x):=fun x hx=>by
 have h1:=h.lt a c ha hc hp;have h2:=hb a ha;have h3:=hb c hc;have h4:=hb x hx;constructor
 ·show(if x=c then _ else _)≤_;split
  ·rename_i e;subst e;omega
  ·exact h4.1
 ·show _≤(if x=a then _ else _);split
  ·rename_i e;subst e;omega
  ·exact h4.2
variable {β:Type}(a0 a1:β→Nat)
variable {a0 a1}
def get_set{x:Int}(hi:i<l.length):(l.set i x).getD a 0=if a=i then x else l.getD a 0:=by
 simp only[yyp,List.getElem?_set];by_cases h:i=a
 ·subst h;simp[hi]
 ·rw[if_neg h,if_neg fun e=>h e.symm]
def bitsQ(q:List Nat):Nat:=q.foldl (fun x c=>x ||| 2 ^ c) 0
def z5n(q:List Nat)(c:Nat):bitsQ (q++[c])=bitsQ q ||| 2 ^ c:=by simp[bitsQ]
def z03:∀ (q:List Nat) (x a:Nat),(q.foldl (fun x c=>x ||| 2 ^ c) x).testBit a=(x.testBit a||decide (a∈q))
 |[],x,a=>by simp
 |c::q,x,a=>by
  rw[List.foldl_cons,z03 q,Nat.testBit_or,Nat.testBit_two_pow,Bool.or_assoc];congr 1;by_cases h:c=a
  ·subst h;simp
  ·by_cases h2:a∈q
   ·simp[h2]
   ·simp[h,h2,show ¬ a=c from fun e=>h e.symm]
def q7d(q:List Nat)(a:Nat):(bitsQ q).testBit a=decide (a∈q):=by unfold bitsQ;rw[z03];simp
def bitsQ_lt{q:List Nat}(h:∀ c∈q,c<n):bitsQ q<2 ^ n:=by refine Nat.lt_pow_two_of_testBit _ fun i hi=>?_;rw[q7d];refine decide_eq_false fun hm=>?_;have:=h i hm;omega
def okx(P:Nat→Nat→Bool)(n x c:Nat):Bool:=!(x.testBit c)&&(List.range n).all fun a=>!(P a c)||x.testBit a
def kb(P:Nat→Nat→Bool)(n:Nat):Nat→List Nat
 |0=>[0]
 |m+1=>(kb P n m).flatMap fun x=>((List.range n).filter (okx P n x)).map fun c=>x ||| 2 ^ c
end Ox.Gl
namespace Ox.Gl
open Ox.St
variable {P:Nat→Nat→Bool}{n:Nat}
def pick(u:List Int)(m:Nat)(cs:List Nat):Nat:=cs.getD (if 0<u.length then(u.getD (m % u.length) 0).toNat % cs.length else 0) 0
end Ox.Gl
namespace Ox.Gl
def nodup_sub{α:Type}[DecidableEq α]:∀ {z a:List α},z.Nodup→(∀ x∈z,x∈a)→z.length≤a.length
 |[],_,_,_=>yyw _
 |x::z,a,hz,hs=>by obtain⟨h1,h2⟩:=yxu.1 hz;have hx:=hs x yyh;have:=nodup_sub (z:=z) (a:=a.erase x) h2 fun y hy=>(List.mem_erase_of_ne (fun e:y=x=>h1 (by rw[← e];exact hy))).2 (hs y (yyi _ hy));rw[List.length_erase_of_mem hx] at this;have:=List.length_pos_of_mem hx;simp only[List.length_cons];omega
def allPr:List (List Int):=(List.range 8).flatMap fun k=>(List.range k).map fun i:Nat=>[(i:Int),(k:Int)]
def z97:allPr.length=28:=by decide +kernel
def z3i{ps:List (List Int)}(hn:ps.Nodup)(h:∀ p∈ps,∃ i k:Nat,i<k∧k<8∧p=[(i:Int),(k:Int)]):ps.length≤28:=by rw[← z97];refine nodup_sub hn fun p hp=>?_;obtain⟨i,k,h1,h2,rfl⟩:=h p hp;exact List.mem_flatMap.2 ⟨k,yyr.2 h2,yxc.2 ⟨i,yyr.2 h1,rfl⟩⟩
variable (P:Nat→Nat→Bool)(n:Nat)
variable {P n}
abbrev RgD:=Int×Int×Unit
variable {P:Nat→Nat→Bool}{n:Nat}
abbrev CoD:=RgD×Int×Int×Unit
def z0(p:List Int):Int:=p.getD 0 0
def z1(p:List Int):Int:=p.getD 1 0
def q0(p:List Int):Nat:=(z0 p).toNat
def q1(p:List Int):Nat:=(z1 p).toNat
variable {d:Int}{cs:List CoD}{ps:List (List Int)}
def one_pow(m:Nat):(1*2 ^ m:Int).toNat=2 ^ m:=by
 rw[Int.one_mul];have:((2:Int) ^ m)=((2 ^ m:Nat):Int):=by rw[Int.natCast_pow];rfl
 rw[this,Int.toNat_natCast]
end Ox.Gl
namespace Go.Proofs.YtjecebccchhmhaaGreatDoor
open Go Go.RowKit Ox
attribute [local irreducible] JC JL JK JW
abbrev vI(n:Int):AV:=.val (.int .i64) n
abbrev vB(b:Bool):AV:=.val .bool b
abbrev vL(xs:List Int):AV:=.val (.slice (.int .i64)) xs
abbrev vLL(xs:List (List Int)):AV:=.val (.slice (.slice (.int .i64))) xs
abbrev pI(n:Int):AV:=.val (.ptr (.int .i64)) (some n)
abbrev vU(xs:List Int):AV:=.val (.slice (.int .u8)) xs
def j4(xs:List α)(h:i<xs.length)(d:α):xs.getD i d=xs[i]:=by simp[yyp,yyv h]
variable{X:Ctx}{c:Code}{Q:Exit→S→Prop}
def cdf{s:S}(hb:fn.body=some c)(k:JK X [.code c] Q s):JK X [.code (fn.body.getD .skip)] Q s:=by rw[hb];exact k
def cdt{s:S}(hb:fn.body=some c)(k:JK X [.code (fn.body.getD .skip)] Q s):JK X [.code c] Q s:=by rw[hb] at k;exact k
def idxB{α:Type}(p:α→Bool):List α→Nat→Int
 |[],_=>-1
 |x::r,i=>if p x then(i:Int) else idxB p r (i+1)
def g7{α:Type}{p:α→Bool}:∀ {xs:List α} {i:Nat},(0≤idxB p xs i)↔xs.any p=true
 |[],i=>by simp[idxB]
 |x::r,i=>by
  simp only[idxB,List.any_cons,yyu];by_cases h:p x=true
  ·simp[h]
  ·rw[if_neg h,g7];simp[h]
def fn75(xs:List Int)(b:Int):Ox.Fn Tryz.prog 75 (.acons (vL xs) (.acons (vI b) .anil)) (·=vI (idxB (fun x=>decide (b=x)) xs 0)):=by
 refine Ox.Fn.intro xok Tryz.func75 rfl Tryz.call75 (yyd rfl) (fun E M0 up=>?_);refine JK.start ?_;refine JK.lenOf 0 rfl fun ha=>?_;replace ha:xs.length≤9223372036854775807:=ha.1;refine zK0 ?_;refine JK.loop (fun i:Nat=>⟨[(0,vL xs),(1,vI b),(7,vI xs.length),(8,vI (i:Int))],[],0⟩) (fun i=>i≤xs.length∧idxB (fun x=>decide (b=x)) xs 0=idxB (fun x=>decide (b=x)) (xs.drop i) i) (fun i=>xs.length-i) 0 (by simp) (by exact zJ) fun i ⟨hi,hn⟩=>?_;refine zK0 ?_;refine z5 rfl (fun hc=>?_) (fun hc=>?_)
 ·replace hc:=zC hc;have hb:i<xs.length:=by omega
  refine zK0 ?_;refine z5 rfl (fun hd=>?_) (fun hd=>?_)
  ·replace hd:=zC hd;refine zK0 ?_;refine zR rfl trivial ?_;rw[j4 xs hb] at hd;rw[hn,yy4 hb,idxB,if_pos (by simpa using hd)]
  ·replace hd:=zC hd;refine zK0 ?_;rw[j4 xs hb] at hd;refine⟨i+1,by exact zJ,⟨by omega,?_⟩,by omega⟩;rw[hn,yy4 hb,idxB,if_neg (by simpa using hd)]
 ·replace hc:=zC hc;refine zK0 ?_;refine zR rfl trivial ?_;obtain rfl:i=xs.length:=by omega
  rw[hn,List.drop_length];rfl
def fn44(xs:List Int)(b:Int):Ox.Fn Tryz.prog 44 (.acons (vL xs) (.acons (vI b) .anil)) (·=vB (decide (b∈xs))):=by
 refine Ox.Fn.intro xok Tryz.func44 rfl Tryz.call44 (yyd rfl) (fun E M0 up=>?_);refine JK.start ?_
 (repeat (first|refine zs rfl ?_|refine zg rfl rfl rfl ?_|refine zd ?_|refine w9 ?_|refine w7 ?_|refine zc rfl (fn75 xs b) rfl rfl ?_|refine ze rfl (fn75 xs b) rfl ?_|refine zk rfl rfl (fun _=>fn75 xs b) rfl rfl ?_))
 refine zR rfl trivial ?_;refine congrArg vB ?_;rw[yy5];simp only[yyq];refine(g7 (p:=fun x=>decide (b=x)) (i:=0)).trans ?_;simp
abbrev prT:Ty:=.arr 2 (.int .i64)
abbrev vPr(p:List Int):AV:=.val prT p
abbrev beT:Ty:=.cons (.int .i64) (.cons (.slice prT) .nil)
abbrev mkB(n:Int)(ps:List (List Int)):beT.den:=(n,ps,())
abbrev vBe(n:Int)(ps:List (List Int)):AV:=.val beT (mkB n ps)
def eqPr:EqT Tryz.prog prT 75:=.of (by decide +kernel)
def fn208(x lo hi:Int):Ox.Fn Tryz.prog 208 (.acons (vI x) (.acons (pI lo) (.acons (pI hi) .anil))) (·=vB (decide (x<lo∨x>hi))):=by refine Ox.Fn.intro xok Tryz.func208 rfl Tryz.call208 (yyd rfl) (fun E M0 up=>?_);refine JK.start ?_;refine zK1 ?_;refine zR rfl trivial ?_;by_cases h:x<lo<;>simp[h]
variable{t1 t2:Ty}
def z80{x1:t1.den}{x2:t2.den}(xs:List Int)(p:Int→Bool)(h:∀ x∈xs,Ox.Fn Tryz.prog f (.acons (vI x) (.acons (.val t1 x1) (.acons (.val t2 x2) .anil))) (·=vB (p x))) :
  Ox.Fn Tryz.prog 125 (.acons (vL xs) (.acons (.fn f .anil (.acons (.val t1 x1) (.acons (.val t2 x2) .anil))) .anil)) (·=vI (idxB p xs 0)):=by
 refine Ox.Fn.intro xok Tryz.func125 rfl Tryz.call125 (yyd rfl) (fun E M0 up=>?_);refine JK.start ?_;refine JK.lenOf 0 rfl fun hb=>?_;replace hb:xs.length≤9223372036854775807:=hb.1;refine zK1 ?_;refine JK.loop (fun i:Nat=>⟨[(0,vL xs),(1,.fn f .anil (.acons (.val t1 x1) (.acons (.val t2 x2) .anil))),(7,vI xs.length),(8,vI (i:Int))],[],0⟩) (fun i=>i≤xs.length∧idxB p xs 0=idxB p (xs.drop i) i) (fun i=>xs.length-i) 0 (by simp) (by exact zJ) fun i ⟨hi,hn⟩=>?_;refine zK1 ?_;refine z5 rfl (fun hc=>?_) (fun hc=>?_)
 ·replace hc:=zC hc;have ha:i<xs.length:=by omega
  have hx:=h (xs.getD i 0) (by rw[j4 xs ha];exact yy9 ha);refine zK6 ?_;refine z5 rfl (fun hd=>?_) (fun hd=>?_)
  ·refine zK1 ?_;refine zR rfl trivial ?_;rw[j4 xs ha] at hd;rw[hn,yy4 ha,idxB,if_pos hd]
  ·refine zK1 ?_;rw[j4 xs ha] at hd;refine⟨i+1,by exact zJ,⟨by omega,?_⟩,by omega⟩;rw[hn,yy4 ha,idxB,if_neg (by rw[hd];simp)]
 ·replace hc:=zC hc;refine zK1 ?_;refine zR rfl trivial ?_;obtain rfl:i=xs.length:=by omega
  rw[hn,List.drop_length];rfl
def fn59b{x1:t1.den}{x2:t2.den}(xs:List Int)(p:Int→Bool)(h:∀ x∈xs,Ox.Fn Tryz.prog f (.acons (vI x) (.acons (.val t1 x1) (.acons (.val t2 x2) .anil))) (·=vB (p x))) :
  Ox.Fn Tryz.prog 59 (.acons (vL xs) (.acons (.fn f .anil (.acons (.val t1 x1) (.acons (.val t2 x2) .anil))) .anil)) (·=vB (xs.any p)):=by
 refine Ox.Fn.intro xok Tryz.func59 rfl Tryz.call59 (yyd rfl) (fun E M0 up=>?_);refine JK.start ?_
 (repeat (first|refine zs rfl ?_|refine zg rfl rfl rfl ?_|refine zd ?_|refine w9 ?_|refine w7 ?_|refine zc rfl (z80 xs p h) rfl rfl ?_|refine ze rfl (z80 xs p h) rfl ?_|refine zk rfl rfl (fun _=>z80 xs p h) rfl rfl ?_))
 refine zR rfl trivial ?_;refine congrArg vB ?_;rw[yy5,← g7 (p:=p) (i:=0)];simp
def fn157(lo hi:Int)(xs:List Int):Ox.Fn Tryz.prog 157 (.acons (vI lo) (.acons (vI hi) (.acons (vL xs) .anil))) (·=vB (decide (∀ x∈xs,lo≤x∧x≤hi))):=by
 refine Ox.Fn.intro xok Tryz.func157 rfl Tryz.call157 (yyd rfl) (fun E M0 up=>?_);refine JK.start ?_
 (repeat (first|refine zs rfl ?_|refine zg rfl rfl rfl ?_|refine zd ?_|refine w9 ?_|refine w7 ?_|refine zc rfl (fn59b xs (fun x=>decide (x<lo∨x>hi)) (fun x _=>fn208 x lo hi)) rfl rfl ?_|refine ze rfl (fn59b xs (fun x=>decide (x<lo∨x>hi)) (fun x _=>fn208 x lo hi)) rfl ?_|refine zk rfl rfl (fun _=>fn59b xs (fun x=>decide (x<lo∨x>hi)) (fun x _=>fn208 x lo hi)) rfl rfl ?_))
 refine zR rfl trivial ?_;refine congrArg vB ?_;rw[yy5];simp only[yys,List.any_eq_false,yyq];refine⟨fun h x hx=>?_,fun h x hx=>?_⟩
 ·have:=h x hx;omega
 ·have:=h x hx;omega
def fn238(ps:List (List Int))(p:List Int):Ox.Fn Tryz.prog 238 (.acons (.val (.slice prT) ps) (.acons (vPr p) .anil)) (·=vI (idxB (fun q=>prT.eqB p q) ps 0)):=by
 refine Ox.Fn.intro xok Tryz.func238 rfl Tryz.call238 (yyd rfl) (fun E M0 up=>?_);refine JK.start ?_;refine JK.lenOf 0 rfl fun ha=>?_;replace ha:ps.length≤9223372036854775807:=ha.1;refine zK1 ?_;refine JK.loop (fun i:Nat=>⟨[(0,.val (.slice prT) ps),(3,.lf (.optr 0 [])),(7,vI ps.length),(8,vI (i:Int))],[(0,.cell prT (vPr p))],1⟩) (fun i=>i≤ps.length∧idxB (fun q=>prT.eqB p q) ps 0=idxB (fun q=>prT.eqB p q) (ps.drop i) i) (fun i=>ps.length-i) 0 (by simp) (by exact zJ) fun i ⟨hi,hn⟩=>?_;refine zK1 ?_;refine z5 rfl (fun hc=>?_) (fun hc=>?_)
 ·replace hc:=zC hc;have hb:i<ps.length:=by omega
  (repeat (first|refine zs rfl ?_|refine zg rfl rfl rfl ?_|refine w9 ?_|refine w7 ?_))
  refine q22 xk (Tryz.f238.body.getD .skip) ⟨[(0,.val (.slice prT) ps),(3,.lf (.optr 0 [])),(5,vI (i:Int)),(7,vI ps.length),(8,vI (i:Int)),(16,vB (prT.eqB p (ps.getD i prT.dflt)))],[(0,.cell prT (vPr p))],1⟩ rfl 6 rfl ?_ ?_
  ·(refine q7 1 xk rfl rfl (q7 2 xk rfl rfl (q7 3 xk rfl rfl (j3 0 xk rfl rfl (j3 4 xk rfl rfl (zU 5 xk rfl rfl ?_)))));(first|refine JL.G1 xk rfl rfl rfl ?_|refine z1g xk rfl rfl ?_|refine JL.M0 xk rfl ?_|refine JL.EqQ eqPr rfl rfl rfl ?_);refine w4 ?_;refine q0b xk StF.nil ?_;(exact zJ))
  rw[j4 ps hb];refine zK1 ?_;refine z5 rfl (fun hd=>?_) (fun hd=>?_)
  ·refine zK1 ?_;refine zR rfl trivial ?_;rw[hn,yy4 hb,idxB,if_pos hd]
  ·refine zK1 ?_;refine⟨i+1,by exact zJ,⟨by omega,?_⟩,by omega⟩;rw[hn,yy4 hb,idxB,if_neg (by rw[hd];simp)]
 ·replace hc:=zC hc;refine zK1 ?_;refine zR rfl trivial ?_;obtain rfl:i=ps.length:=by omega
  rw[hn,List.drop_length];rfl
def fn221(ps:List (List Int))(p:List Int):Ox.Fn Tryz.prog 221 (.acons (.val (.slice prT) ps) (.acons (vPr p) .anil)) (·=vB (decide (p∈ps))):=by
 refine Ox.Fn.intro xok Tryz.func221 rfl Tryz.call221 (yyd rfl) (fun E M0 up=>?_);refine JK.start ?_
 (repeat (first|refine zs rfl ?_|refine zg rfl rfl rfl ?_|refine zd ?_|refine w9 ?_|refine w7 ?_|refine zc rfl (fn238 ps p) rfl rfl ?_|refine ze rfl (fn238 ps p) rfl ?_|refine zk rfl rfl (fun _=>fn238 ps p) rfl rfl ?_))
 refine zR rfl trivial ?_;refine congrArg vB ?_;rw[yy5];simp only[yyq];refine(g7 (p:=fun q=>prT.eqB p q) (i:=0)).trans ?_;rw[List.any_eq_true];refine⟨fun⟨x,h1,h2⟩=>?_,fun h=>⟨p,h,g9.2 rfl⟩⟩;rw[g9.1 h2];exact h1
abbrev p0(p:List Int):Int:=p.getD 0 0
abbrev p1(p:List Int):Int:=p.getD 1 0
def badP(n:Int)(ps:List (List Int))(i:Nat):Bool:=let p:=ps.getD i prT.dflt;decide (p0 p<0∨p1 p ≥ n∨p0 p ≥ p1 p∨p∈ps.take i)
def benE(n:Int)(ps:List (List Int)):Int:=if ¬ (1≤n∧n≤8)∨ps.length>28 then 6 else if (List.range ps.length).any (badP n ps)=true then 2 else 0
def fn176(n:Int)(ps:List (List Int)):Ox.Fn Tryz.prog 176 (.acons (vBe n ps) .anil) (·=vI (benE n ps)):=by
 refine Ox.Fn.intro xok Tryz.func176 rfl Tryz.call176 (yyd rfl) (fun E M0 up=>?_);refine JK.start ?_;have h1:=fn157 1 8 (n::List.nil);have e1:(∀ x∈[n],1≤x∧x≤8)↔(1≤n∧n≤8):=by simp
 rw[decide_eq_decide.2 e1] at h1;refine zK9 ?_;refine z5 rfl (fun hc=>?_) (fun hc=>?_)
 ·refine zK1 ?_;refine zR rfl trivial ?_;refine congrArg vI ?_;unfold benE;rw[if_pos ?_];by_cases c1:1≤n∧n≤8
  ·rw[decide_eq_true c1] at hc;have h2:(28:Int)<ps.length:=by simpa using hc
   right;omega
  ·exact .inl c1
 have hb:(1≤n∧n≤8)∧ps.length≤28:=by
  by_cases c1:1≤n∧n≤8
  ·rw[decide_eq_true c1] at hc;have h2:(ps.length:Int)≤28:=by simpa using hc
   exact⟨c1,by omega⟩
  ·rw[decide_eq_false c1] at hc;simp at hc
 clear hc h1 e1;obtain⟨⟨b1,b2⟩,b3⟩:=hb;have hE:benE n ps=if (List.range ps.length).any (badP n ps)=true then 2 else 0:=by unfold benE;rw[if_neg (by omega)]
 refine zK1 ?_;refine JK.loop (fun i:Nat=>⟨[(1,.lf (.optr 0 [])),(17,.val (.slice prT) ps),(18,vI ps.length),(19,vI (i:Int))],[(0,.cell beT (vBe n ps))],1⟩) (fun i=>i≤ps.length∧∀ j,j<i→badP n ps j=false) (fun i=>ps.length-i) 0 ⟨yyw _,fun j h=>absurd h (Nat.not_lt_zero j)⟩ (by exact zJ) fun i ⟨hi,hn⟩=>?_;refine zK1 ?_;refine z5 rfl (fun hc=>?_) (fun hc=>?_)
 ·replace hc:=zC hc;have he:i<ps.length:=by omega
  have hz:ps.getD (Int.toNat (i:Int)) prT.dflt=ps.getD i prT.dflt:=rfl
  (repeat (first|refine zs rfl ?_|refine zg rfl rfl rfl ?_|refine w9 ?_|refine w7 ?_))
  rw[hz];have ha:badP n ps i=decide (p0 (ps.getD i prT.dflt)<0∨p1 (ps.getD i prT.dflt) ≥ n∨p0 (ps.getD i prT.dflt) ≥ p1 (ps.getD i prT.dflt)∨ps.getD i prT.dflt∈ps.take i):=rfl;have h1:=fn157 0 (n-1) (p0 (ps.getD i prT.dflt)::p1 (ps.getD i prT.dflt)::List.nil);have h2:=fn221 (ps.take i) (ps.getD i prT.dflt);generalize ps.getD i prT.dflt=p at ha h1 h2 ⊢;have hg:(0:Int)≤i∧(i:Int)≤ps.length:=by omega
  refine q22 xk (Tryz.f176.body.getD .skip) ⟨[(1,.lf (.optr 0 [])),(17,.val (.slice prT) ps),(18,vI ps.length),(19,vI (i:Int)),(48,vB (bif bif !decide (∀ x∈[p0 p,p1 p],0≤x∧x≤n-1) then true else decide (p1 p≤p0 p) then true else decide (p∈ps.take i)))],[(0,.cell beT (vBe n ps))],1⟩ rfl 25 rfl ?_ ?_
  ·(refine q7 0 xk rfl rfl (q7 3 xk rfl rfl (q7 5 xk rfl rfl (j3 1 xk rfl rfl (j3 2 xk rfl rfl (j3 4 xk rfl rfl (j3 6 xk rfl rfl (zU 7 xk rfl rfl ?_)))))));refine zK2 ?_;refine w4 ?_;refine zU 8 xk rfl rfl ?_;refine zK2 ?_;refine w4 ?_;refine q7 9 xk rfl rfl (q7 10 xk rfl rfl (p8 11 xk rfl rfl rfl (p8 13 xk rfl rfl rfl ?_)));refine q0u 12 [14] xk ?_ ?_;exact zS;refine(BrF.one rfl rfl ?_ (BrF.one rfl rfl ?_ BrF.nil));(· refine zK2 ?_;refine w4 ?_;refine zU 14 xk rfl rfl ?_;refine zK2 ?_;refine w4 ?_;refine p8 15 xk rfl rfl rfl (q7 16 xk rfl rfl (q7 17 xk rfl rfl (p8 18 xk rfl rfl rfl (p8 20 xk rfl rfl rfl ?_))));refine q0u 19 [22] xk ?_ ?_;exact zS;refine(BrF.one rfl rfl ?_ (BrF.one rfl rfl ?_ BrF.nil));(· refine zK2 ?_;refine w4 ?_;refine p8 21 xk rfl rfl rfl (zU 22 xk rfl rfl ?_);refine zK2 ?_;refine w4 ?_;refine zU 23 xk rfl rfl ?_;exact zB1);(· refine zK2 ?_;refine w4 ?_;refine zU 19 xk rfl rfl ?_;refine zK2 ?_;refine w4 ?_;refine p8 21 xk rfl rfl rfl (zU 23 xk rfl rfl ?_);refine zK2 ?_;refine w4 ?_;refine q7 24 xk rfl rfl ?_;refine q0b xk ?_ ?_;exact zS;(exact zJ)));(· refine zK2 ?_;refine w4 ?_;refine zU 12 xk rfl rfl ?_;refine zK2 ?_;refine w4 ?_;refine p8 15 xk rfl rfl rfl (q7 16 xk rfl rfl (q7 17 xk rfl rfl (p8 18 xk rfl rfl rfl (p8 20 xk rfl rfl rfl ?_))));refine q0u 19 [22] xk ?_ ?_;exact zS;refine(BrF.one rfl rfl ?_ (BrF.one rfl rfl ?_ BrF.nil));(· refine zK2 ?_;refine w4 ?_;refine p8 21 xk rfl rfl rfl (zU 22 xk rfl rfl ?_);refine zK2 ?_;refine w4 ?_;refine zU 23 xk rfl rfl ?_;exact zB1);(· refine zK2 ?_;refine w4 ?_;refine zU 19 xk rfl rfl ?_;refine zK2 ?_;refine w4 ?_;refine p8 21 xk rfl rfl rfl (zU 23 xk rfl rfl ?_);exact zB1)))
  have hv:(bif bif !decide (∀ x∈[p0 p,p1 p],0≤x∧x≤n-1) then true else decide (p1 p≤p0 p) then true else decide (p∈ps.take i))=badP n ps i:=by
   rw[ha,yy5];by_cases hm:p∈ps.take i
   ·simp[hm]
   ·simp only[hm,z04,yyu,yys,yyq,decide_eq_false_iff_not,yym,yxe,or_false,forall_eq_or_imp,forall_eq];omega
  rw[hv];refine z5 rfl (fun hd=>?_) (fun hd=>?_)
  ·refine zK1 ?_;refine zR rfl trivial ?_;refine congrArg vI ?_;rw[hE,if_pos (List.any_eq_true.2 ⟨i,yyr.2 he,hd⟩)]
  ·refine zK1 ?_;refine⟨i+1,by exact zJ,⟨by omega,fun j hj=>?_⟩,by omega⟩;rcases Nat.lt_succ_iff_lt_or_eq.1 hj with h|rfl
   ·exact hn j h
   ·exact hd
 ·replace hc:=zC hc;refine zK1 ?_;refine zR rfl trivial ?_;refine congrArg vI ?_;rw[hE,if_neg];intro h;rw[List.any_eq_true] at h;obtain⟨j,h1,h2⟩:=h;rw[hn j (by have:=yyr.1 h1;omega)] at h2;cases h2
def lstE(n:Int)(ps:List (List Int))(l:List Int):Int:=if benE n ps≠0 then benE n ps else if l.length>60 then 6 else if (∀ x∈l,0-n≤x∧x≤n)∧0∉l then 0 else 3
def fn114(n:Int)(ps:List (List Int))(l:List Int)(ha:-1000≤n∧n≤1000):Ox.Fn Tryz.prog 114 (.acons (vBe n ps) (.acons (vL l) .anil)) (·=vI (lstE n ps l)):=by
 refine Ox.Fn.intro xok Tryz.func114 rfl Tryz.call114 (yyd rfl) (fun E M0 up=>?_);refine JK.start ?_;have hL:lstE n ps l=if benE n ps≠0 then benE n ps else if l.length>60 then 6 else if (∀ x∈l,0-n≤x∧x≤n)∧0∉l then 0 else 3:=rfl;have h1:=fn176 n ps;have h2:=fn157 (0-n) n l;have h3:=fn44 l 0;generalize benE n ps=e at hL h1;refine zK9 ?_;refine z5 rfl (fun hc=>?_) (fun hc=>?_)
 ·replace hc:=zC hc;refine zK1 ?_;refine zR rfl trivial ?_;rw[hL,if_pos hc]
 ·replace hc:=zC hc;rw[if_neg (by omega)] at hL;refine zK1 ?_;refine z5 rfl (fun hc=>?_) (fun hc=>?_)
  ·replace hc:=zC hc;refine zK1 ?_;refine zR rfl trivial ?_;rw[hL,if_pos (by omega)]
  ·replace hc:=zC hc;rw[if_neg (by omega)] at hL
   (repeat (first|refine zs rfl ?_|refine zg rfl rfl rfl ?_|refine zd ?_|refine w9 ?_|refine w7 ?_|refine zc rfl (h2) rfl rfl ?_|refine ze rfl (h2) rfl ?_|refine zk rfl rfl (fun _=>h2) rfl rfl ?_|refine zc rfl (h3) rfl rfl ?_|refine ze rfl (h3) rfl ?_|refine zk rfl rfl (fun _=>h3) rfl rfl ?_))
   refine z5 rfl (fun hc=>?_) (fun hc=>?_)
   ·refine zK1 ?_;refine zR rfl trivial ?_;refine congrArg vI ?_;rw[hL,if_neg];intro⟨q1,q2⟩;simp[q1,q2] at hc;exact absurd q1 (by simpa using hc)
   ·refine zK1 ?_;refine zR rfl trivial ?_;refine congrArg vI ?_;rw[hL,if_pos];simpa using hc
end Go.Proofs.YtjecebccchhmhaaGreatDoor
namespace Go.Proofs.YtjecebccchhmhaaGreatDoor
open Go Go.RowKit Ox Ox.St
attribute [local irreducible] JC JL JK JW
abbrev rwT:Ty:=.arr 8 (.int .i64)
abbrev mxT:Ty:=.arr 8 rwT
abbrev tbT:Ty:=.cons beT (.cons mxT .nil)
def put2(C:List (List Int))(i j:Nat):List (List Int):=C.set i ((C.getD i rwT.dflt).set j 1)
def crM(ps:List (List Int)):List (List Int):=ps.foldl (fun C p=>put2 (put2 C (p0 p).toNat (p1 p).toNat) (p1 p).toNat (p0 p).toNat) mxT.dflt
def crAt(C:List (List Int))(i j:Nat):Int:=(C.getD i rwT.dflt).getD j 0
def mx8(C:List (List Int)):Prop:=C.length=8∧∀ i,i<8→(C.getD i rwT.dflt).length=8
def z12(h:mx8 C)(i j:Nat)(hi:i<8):mx8 (put2 C i j):=by
 refine⟨by simp[put2,h.1],fun k hk=>?_⟩;unfold put2;rw[yyp,List.getElem?_set];by_cases e:i=k
 ·subst e;rw[if_pos rfl,if_pos (by rw[h.1];omega),Option.getD_some,List.length_set];exact h.2 i hi
 ·rw[if_neg e,← yyp];exact h.2 k hk
def z63(h:mx8 C)(hi:i<8)(hj:j<8)(a b:Nat):crAt (put2 C i j) a b=if i=a∧j=b then 1 else crAt C a b:=by
 unfold crAt put2;rw[yyp (l:=C.set _ _),List.getElem?_set];by_cases e:i=a
 ·subst e;rw[if_pos rfl,if_pos (by rw[h.1];exact hi),Option.getD_some,yyp,List.getElem?_set];by_cases e2:j=b
  ·subst e2;rw[if_pos rfl,if_pos (by rw[h.2 i hi];exact hj),if_pos ⟨rfl,rfl⟩];rfl
  ·rw[if_neg e2,if_neg (fun q=>e2 q.2),← yyp]
 ·rw[if_neg e,if_neg (fun q=>e q.1),← yyp]
def crs(ps:List (List Int))(a b:Nat):Bool:=ps.any fun p=>decide (((p0 p).toNat=a∧(p1 p).toNat=b)∨((p0 p).toNat=b∧(p1 p).toNat=a))
def z38(ps:List (List Int))(a b:Nat):crs ps a b=crs ps b a:=by unfold crs;congr 1;funext p;rw[decide_eq_decide];exact Or.comm
def z4a:∀ (ps:List (List Int)),(∀ p∈ps,(p0 p).toNat<8∧(p1 p).toNat<8)→mx8 (crM ps)∧∀ a b,a<8→b<8→crAt (crM ps) a b=if crs ps a b=true then 1 else 0:=by
 have key:∀ (ps:List (List Int)) (C:List (List Int)),(∀ p∈ps,(p0 p).toNat<8∧(p1 p).toNat<8)→mx8 C→mx8 (ps.foldl (fun C p=>put2 (put2 C (p0 p).toNat (p1 p).toNat) (p1 p).toNat (p0 p).toNat) C) ∧
   ∀ a b,a<8→b<8→crAt (ps.foldl (fun C p=>put2 (put2 C (p0 p).toNat (p1 p).toNat) (p1 p).toNat (p0 p).toNat) C) a b=if crs ps a b=true then 1 else crAt C a b:=by
  intro ps;induction ps with
  |nil=>exact fun C _ hC=>⟨hC,fun a b _ _=>by simp[crs]⟩
  |cons p ps ih=>
   intro C hp hC;obtain⟨h1,h2⟩:=hp p yyh;have hm:=z12 (z12 hC _ (p1 p).toNat h1) _ (p0 p).toNat h2;obtain⟨i1,i2⟩:=ih _ (fun q hq=>hp q (yyi _ hq)) hm;refine⟨i1,fun a b ha hb=>?_⟩;rw[List.foldl_cons,i2 a b ha hb,z63 (z12 hC _ _ h1) h2 h1,z63 hC h1 h2];have hd:crs (p::ps) a b=(decide (((p0 p).toNat=a∧(p1 p).toNat=b)∨((p0 p).toNat=b∧(p1 p).toNat=a))||crs ps a b):=rfl;rw[hd];cases crs ps a b with
   |true=>simp
   |false=>have he:((p1 p).toNat=a∧(p0 p).toNat=b)↔((p0 p).toNat=b∧(p1 p).toNat=a):=And.comm;generalize (p0 p).toNat=u at *;generalize (p1 p).toNat=v at *;by_cases c2:u=b∧v=a<;>by_cases c3:u=a∧v=b<;>simp[c2,c3,he]
 intro ps hp;have hz:mx8 mxT.dflt:=⟨rfl,fun i hi=>(by decide:∀ i<8,(List.getD mxT.dflt i rwT.dflt).length=8) i hi⟩;obtain⟨h1,h2⟩:=key ps _ hp hz;refine⟨h1,fun a b ha hb=>?_⟩;rw[show crM ps=ps.foldl _ mxT.dflt from rfl,h2 a b ha hb];rw[(by decide:∀ a<8,∀ b<8,crAt mxT.dflt a b=0) a ha b hb]
def crM_snoc(ps:List (List Int))(h:i<ps.length):crM (ps.take (i+1))=put2 (put2 (crM (ps.take i)) (p0 (ps.getD i prT.dflt)).toNat (p1 (ps.getD i prT.dflt)).toNat) (p1 (ps.getD i prT.dflt)).toNat (p0 (ps.getD i prT.dflt)).toNat:=by unfold crM;rw[yxg h,List.foldl_append,j4 ps h];rfl
variable{n:Int}
def z4g{ps:List (List Int)}(h:benE n ps=0):(1≤n∧n≤8)∧ps.length≤28∧∀ i,i<ps.length→0≤p0 (ps.getD i prT.dflt)∧p0 (ps.getD i prT.dflt)<p1 (ps.getD i prT.dflt)∧p1 (ps.getD i prT.dflt)<n:=by
 unfold benE at h;split at h
 ·cases h
 ·rename_i h1;split at h
  ·cases h
  ·rename_i h2;refine⟨by omega,by omega,fun i hi=>?_⟩;have hb:badP n ps i=false:=by
    cases hb:badP n ps i with
    |false=>rfl
    |true=>exact absurd (List.any_eq_true.2 ⟨i,yyr.2 hi,hb⟩) h2
   unfold badP at hb;rw[decide_eq_false_iff_not] at hb;generalize p0 (ps.getD i prT.dflt)=u at *;generalize p1 (ps.getD i prT.dflt)=v at *;omega
def ben_lt{ps:List (List Int)}(h:benE n ps=0):∀ p∈ps,(p0 p).toNat<8∧(p1 p).toNat<8:=fun p hp=>by obtain⟨h1,_,h2⟩:=z4g h;obtain⟨i,hi,rfl⟩:=yx9.1 hp;have:=h2 i hi;rw[j4 ps hi] at this;omega
abbrev tbV(n:Int)(ps:List (List Int)):tbT.den:=(mkB n ps,crM ps,())
abbrev vTb(n:Int)(ps:List (List Int)):AV:=.val (.ptr tbT) (some (tbV n ps))
def fn115(n:Int)(ps:List (List Int))(hb:benE n ps=0):Ox.Fn Tryz.prog 115 (.acons (vBe n ps) .anil) (·=vTb n ps):=by
 refine Ox.Fn.intro xok Tryz.func115 rfl Tryz.call115 (yyd rfl) (fun E M0 up=>?_);refine JK.start ?_;obtain⟨_,hh,he⟩:=z4g hb;refine zK0 ?_;refine JK.loop (fun i:Nat=>⟨[(1,.lf (.optr 0 [])),(3,.lf (.optr 1 [])),(10,.val (.slice prT) ps),(11,vI ps.length),(12,vI (i:Int))],[(0,.cell beT (vBe n ps)),(1,.cell tbT (.val tbT (mkB n ps,crM (ps.take i),())))],2⟩) (fun i=>i≤ps.length) (fun i=>ps.length-i) 0 (yyw _) (by exact zJ) fun i hi=>?_;have ha:=crM_snoc ps (i:=i);have hg:=he i;refine zK0 ?_;refine z5 rfl (fun hc=>?_) (fun hc=>?_)
 ·replace hc:=zC hc;have hd:i<ps.length:=by omega
  have hz:ps.getD (Int.toNat (i:Int)) prT.dflt=ps.getD i prT.dflt:=rfl;have ha:=ha hd;obtain⟨q1,q2,q3⟩:=hg hd;refine zK5 ?_;rw[hz];generalize crM (ps.take i)=C at ha ⊢;generalize ps.getD i prT.dflt=p at ha q1 q2 q3 ⊢;have q4:0≤p.getD (Int.toNat 0) (Ty.int IntKind.i64).dflt∧p.getD (Int.toNat 0) (Ty.int IntKind.i64).dflt<8:=by show 0≤p0 p∧p0 p<8;omega
  have q5:0≤p.getD (Int.toNat 1) (Ty.int IntKind.i64).dflt∧p.getD (Int.toNat 1) (Ty.int IntKind.i64).dflt<8:=by show 0≤p1 p∧p1 p<8;omega
  refine z4t xk (Tryz.f115.body.getD .skip) ⟨[(1,.lf (.optr 0 [])),(3,.lf (.optr 1 [])),(10,.val (.slice prT) ps),(11,vI ps.length),(12,vI (i:Int))],[(0,.cell beT (vBe n ps)),(1,.cell tbT (.val tbT (mkB n ps,put2 (put2 C (p0 p).toNat (p1 p).toNat) (p1 p).toNat (p0 p).toNat,())))],2⟩ rfl 20 rfl ?_ ?_
  ·(refine q7 0 xk rfl rfl (q7 1 xk rfl rfl (q7 3 xk rfl rfl (q7 5 xk rfl rfl (q7 6 xk rfl rfl (q7 8 xk rfl rfl (q7 10 xk rfl rfl (q7 11 xk rfl rfl (q7 15 xk rfl rfl (q7 16 xk rfl rfl (j3 2 xk rfl rfl (j3 4 xk rfl rfl (j3 7 xk rfl rfl (j3 9 xk rfl rfl (j3 12 xk rfl rfl (j3 13 xk rfl rfl (j3 17 xk rfl rfl (zU 14 xk rfl rfl ?_)))))))))))))))));refine zK4 ?_;refine w4 ?_;refine j3 18 xk rfl rfl (zU 19 xk rfl rfl ?_);refine zK4 ?_;refine w4 ?_;refine q0b xk ?_ ?_;exact zS;(exact zJ))
  rw[← ha];refine zK0 ?_;exact⟨i+1,by exact zJ,by omega,by omega⟩
 ·replace hc:=zC hc;have:i=ps.length:=by omega
  rw[this,yxr]
  (refine q57 [1] [3] rfl ?_)
  refine zK0 ?_;refine zR rfl trivial ?_;rfl
abbrev vT2p(n:Int)(ps:List (List Int))(e:Int):AV:=.tup (.acons (vTb n ps) (.acons (vI e) .anil))
def z8a{ps:List (List Int)}(h:lstE n ps l=0):benE n ps=0∧l.length≤60∧∀ x∈l,(0-n≤x∧x≤n)∧x≠0:=by
 unfold lstE at h;split at h
 ·rename_i h1;exact absurd h h1
 ·rename_i h1;split at h
  ·cases h
  ·split at h
   ·rename_i h3;exact⟨Classical.not_not.1 h1,by omega,fun x hx=>⟨h3.1 x hx,fun e=>h3.2 (e▸hx)⟩⟩
   ·cases h
def fn50(n:Int)(ps:List (List Int))(LL:List (List Int))(hb:benE n ps=0)(hl:∀ l∈LL,lstE n ps l=0):Ox.Fn Tryz.prog 50 (.acons (vBe n ps) (.acons (vLL LL) .anil)) (·=vT2p n ps 0):=by
 refine Ox.Fn.intro xok Tryz.func50 rfl Tryz.call50 (yyd rfl) (fun E M0 up=>?_);refine JK.start ?_;refine JK.lenOf 1 rfl fun ha=>?_;replace ha:LL.length≤9223372036854775807:=ha.1;have hn:=(z4g hb).1;refine zK0 ?_;refine JK.loop (fun i:Nat=>⟨[(2,.lf (.optr 0 [])),(9,vLL LL),(10,vI LL.length),(11,vI (i:Int))],[(0,.cell beT (vBe n ps))],1⟩) (fun i=>i≤LL.length) (fun i=>LL.length-i) 0 (yyw _) (by exact zJ) fun i hi=>?_;have he:=fn115 n ps hb;refine zK0 ?_;refine z5 rfl (fun hc=>?_) (fun hc=>?_)
 ·replace hc:=zC hc;have hg:i<LL.length:=by omega
  have hd:=fn114 n ps (LL.getD i []) (by omega);rw[hl _ (by rw[j4 LL hg];exact yy9 hg)] at hd
  (repeat (first|refine zs rfl ?_|refine zg rfl rfl rfl ?_|refine zd ?_|refine w9 ?_|refine w7 ?_|refine zc rfl (hd) rfl rfl ?_|refine ze rfl (hd) rfl ?_|refine zk rfl rfl (fun _=>hd) rfl rfl ?_))
  refine z5 rfl (fun h=>absurd h (by decide)) (fun _=>?_);refine zK0 ?_;exact⟨i+1,by exact zJ,by omega,by omega⟩
 ·(repeat (first|refine zs rfl ?_|refine zg rfl rfl rfl ?_|refine zd ?_|refine w9 ?_|refine w7 ?_|refine zc rfl (he) rfl rfl ?_|refine ze rfl (he) rfl ?_|refine zk rfl rfl (fun _=>he) rfl rfl ?_))
  refine zR rfl trivial ?_;rfl
end Go.Proofs.YtjecebccchhmhaaGreatDoor
namespace Ox.Gl
variable {d:Int}{cs:List CoD}{ps:List (List Int)}
structure OB(Bs:List (List Nat))(n:Nat):Prop where
 ne:Bs≠[]
 pm:∀ o∈Bs,o.Perm (List.range n)
 nd:Bs.Nodup
variable {Bs:List (List Nat)}{n:Nat}
def OB.mem(h:OB Bs n):∃ o,o∈Bs:=List.exists_mem_of_ne_nil _ h.ne
def NB_idx(f:Nat→Nat)(h:∀ a c,P a c=true→f a<f c):NB P n:=by
 intro S h1 h2;obtain⟨c,hS⟩:=h1;generalize hm:f c=m;induction m using Nat.strongRecOn generalizing c with
 |ind m ih=>
  by_cases hx:∃ a,S a∧P a c=true
  ·obtain⟨a,ha,hp⟩:=hx;exact ih (f a) (by rw[← hm];exact h a c hp) a ha rfl
  ·refine⟨c,hS,fun a ha=>?_⟩;cases hp:P a c
   ·rfl
   ·exact absurd ⟨a,ha,hp⟩ hx
def q8q{α:Type}[DecidableEq α]:∀ {z a:List α},z.Nodup→(∀ x∈z,x∈a)→z.length≤a.length
 |[],_,_,_=>yyw _
 |x::z,a,h,hs=>by have hx:=hs x yyh;have ih:=q8q (z:=z) (a:=a.erase x) (yxu.1 h).2 fun y hy=>(List.mem_erase_of_ne (fun e:y=x=>(yxu.1 h).1 (by rw[← e];exact hy))).2 (hs y (yyi _ hy));have:=List.length_erase_of_mem hx;have:=List.length_pos_of_mem hx;simp only[List.length_cons];omega
end Ox.Gl
namespace Ox.Gl
open Ox.St
variable {P:Nat→Nat→Bool}{n:Nat}
def rndL(P:Nat→Nat→Bool)(n:Nat):Nat→List Nat→List (List Nat)
 |0,_=>[]
 |m+1,q=>match (List.range n).filter (okc P n q) with
  |[]=>[]
  |c::cs=>(c::cs)::rndL P n m (q++(c::cs))
def z1d(hi:∀ a,P a a=false)(hn:n≤8):∀ (m:Nat) {q:List Nat} {rv:List Int} {R:Nat→List Int},PQ P n q rv R→roundsR (crsP P) m R=(rndL P n m q).map (List.map stk)
 |0,_,_,_,_=>rfl
 |m+1,q,rv,R,h=>by
  have e:=h.fronts hi hn;unfold roundsR rndL;cases hl:(List.range n).filter (okc P n q) with
  |nil=>rw[hl] at e;rw[e];rfl
  |cons c cs=>
   have hm:∀ d,d∈c::cs↔d<n∧okc P n q d=true:=fun d=>by rw[← hl,yy6,yyr]
   rw[hl] at e;rw[e];have ha:(c::cs).Nodup:=by rw[← hl];exact List.nodup_range.filter _
   obtain⟨rv',h'⟩:=h.takes hi (c::cs) (fun d hd=>(hm d).1 hd) ha;have:=z1d hi hn m h';rw[yy2] at this ⊢;show(stk c::cs.map stk)::_=_;rw[this];rfl
def z6r(hi:∀ a,P a a=false)(hn:n≤8)(hp:o.Perm (List.range n))(hl:o.Pairwise fun x y=>P y x=false)(m:Nat) :
  roundsR (crsP P) m (layL (X:=crsP P) (fun _=>[]) (o.map stk))=(rndL P n m []).map (List.map stk):=z1d hi hn m (PQ.start hp hl)
def q97:∀ (m:Nat) {q:List Nat},(∀ c∈(rndL P n m q).flatten,c<n∧c∉q)∧(rndL P n m q).flatten.Nodup
 |0,q=>by simp[rndL]
 |m+1,q=>by
  unfold rndL;cases hl:(List.range n).filter (okc P n q) with
  |nil=>simp
  |cons c cs=>
   have hm:∀ d,d∈c::cs↔d<n∧okc P n q d=true:=fun d=>by rw[← hl,yy6,yyr]
   have he:(c::cs).Nodup:=by rw[← hl];exact List.nodup_range.filter _
   obtain⟨h1,h2⟩:=q97 m (q:=q++(c::cs));dsimp only;rw[List.flatten_cons];refine⟨fun d hd=>?_,?_⟩
   ·rcases yy3.1 hd with k|k
    ·have:=(hm d).1 k;exact⟨this.1,(n8.1 this.2).1⟩
    ·have:=h1 d k;exact⟨this.1,fun e=>this.2 (yxw _ e)⟩
   ·rw[List.nodup_append];refine⟨he,h2,fun a ha b hb e=>?_⟩;subst e;exact(h1 a hb).2 (List.mem_append_right _ ha)
def z6s(hN:NB P n):∀ (m:Nat) {q:List Nat},q.Nodup→(∀ c∈q,c<n)→n≤m+q.length→∀ c,c<n→c∈q∨c∈(rndL P n m q).flatten
 |0,q,h1,h2,h3,c,hc=>by
  refine .inl (yxy fun hq=>?_);have:=q8q (z:=c::q) (a:=List.range n) (yxu.2 ⟨hq,h1⟩) fun x hx=>by
   rcases yym.1 hx with rfl|hx
   ·exact yyr.2 hc
   ·exact yyr.2 (h2 x hx)
  simp at this;omega
 |m+1,q,h1,h2,h3,c,hc=>by
  by_cases hq:c∈q
  ·exact .inl hq
  obtain⟨d,d1,d2⟩:=j0h hN ⟨c,hc,hq⟩;unfold rndL;cases hl:(List.range n).filter (okc P n q) with
  |nil=>have:d∈(List.range n).filter (okc P n q):=yy6.2 ⟨yyr.2 d1,d2⟩;rw[hl] at this;cases this
  |cons b bs=>
   have hm:∀ d,d∈b::bs↔d<n∧okc P n q d=true:=fun d=>by rw[← hl,yy6,yyr]
   have ha:(b::bs).Nodup:=by rw[← hl];exact List.nodup_range.filter _
   have hb:(q++(b::bs)).Nodup:=by rw[List.nodup_append];exact⟨h1,ha,fun x hx y hy e=>(n8.1 ((hm y).1 hy).2).1 (e▸hx)⟩
   have:=z6s hN m hb (fun x hx=>by
    rcases yy3.1 hx with k|k
    ·exact h2 x k
    ·exact((hm x).1 k).1) (by rw[yyx,List.length_cons];omega) c hc
   dsimp only;rw[List.flatten_cons,yy3];rcases this with k|k
   ·rcases yy3.1 k with k|k
    ·exact absurd k hq
    ·exact .inr (.inl k)
   ·exact .inr (.inr k)
def q98:∀ (m:Nat) {q:List Nat} {r:List Nat},r∈rndL P n m q→(∀ a,a∈r→a<n)∧∀ a∈r,∀ c∈r,P a c=false
 |0,q,r,h=>by cases h
 |m+1,q,r,h=>by
  unfold rndL at h;cases hl:(List.range n).filter (okc P n q) with
  |nil=>rw[hl] at h;cases h
  |cons b bs=>
   have hm:∀ d,d∈b::bs↔d<n∧okc P n q d=true:=fun d=>by rw[← hl,yy6,yyr]
   rw[hl] at h;rcases yym.1 h with rfl|h
   ·refine⟨fun a ha=>((hm a).1 ha).1,fun a ha c hc=>?_⟩;cases e:P a c
    ·rfl
    ·exact absurd ((n8.1 ((hm c).1 hc).2).2 a ((hm a).1 ha).1 e) (n8.1 ((hm a).1 ha).2).1
   ·exact q98 m h
def z3a(hN:NB P n):∀ (m:Nat) {q S:List Nat},n≤m+q.length→q.Nodup→(∀ c∈q,c<n)→S.Nodup→(∀ c∈S,c<n∧c∉q)→(∀ a∈S,∀ c∈S,a≠c→P a c=true∨P c a=true)→S.length≤(rndL P n m q).length
 |0,q,S,h3,h1,h2,hS,hq,_=>by
  cases S with
  |nil=>exact yyo _
  |cons c S=>
   have hc:=hq c yyh;have:=q8q (z:=c::q) (a:=List.range n) (yxu.2 ⟨hc.2,h1⟩) fun x hx=>by
    rcases yym.1 hx with rfl|hx
    ·exact yyr.2 hc.1
    ·exact yyr.2 (h2 x hx)
   simp at this;omega
 |m+1,q,S,h3,h1,h2,hS,hq,hX=>by
  cases S with
  |nil=>exact yyw _
  |cons s S=>
  obtain⟨d,d1,d2⟩:=j0h hN ⟨s,hq s yyh⟩;unfold rndL;cases hl:(List.range n).filter (okc P n q) with
  |nil=>have:d∈(List.range n).filter (okc P n q):=yy6.2 ⟨yyr.2 d1,d2⟩;rw[hl] at this;cases this
  |cons b bs=>
   have hm:∀ d,d∈b::bs↔d<n∧okc P n q d=true:=fun d=>by rw[← hl,yy6,yyr]
   have hg:(b::bs).Nodup:=by rw[← hl];exact List.nodup_range.filter _
   have hh:(q++(b::bs)).Nodup:=by rw[List.nodup_append];exact⟨h1,hg,fun x hx y hy e=>(n8.1 ((hm y).1 hy).2).1 (e▸hx)⟩
   have hd:∀ a∈b::bs,∀ c∈b::bs,P a c=false:=fun a ha c hc=>by
    cases e:P a c
    ·rfl
    ·exact absurd ((n8.1 ((hm c).1 hc).2).2 a ((hm a).1 ha).1 e) (n8.1 ((hm a).1 ha).2).1
   have ih:=z3a hN m (q:=q++(b::bs)) (S:=(s::S).filter fun c=>decide (c∉b::bs)) (by rw[yyx,List.length_cons];omega) hh (fun x hx=>by
    rcases yy3.1 hx with k|k
    ·exact h2 x k
    ·exact((hm x).1 k).1) (hS.filter _) (fun c hc=>by
    obtain⟨k1,k2⟩:=yy6.1 hc;have k2:=of_decide_eq_true k2;have k3:=hq c k1;exact⟨k3.1,fun e=>(yy3.1 e).elim k3.2 k2⟩) (fun a ha c hc=>hX a (yy6.1 ha).1 c (yy6.1 hc).1)
   have hj:(s::S).length≤((s::S).filter fun c=>decide (c∉b::bs)).length+1:=by
    by_cases he:∃ x,x∈s::S∧x∈b::bs
    ·obtain⟨x,x1,x2⟩:=he;have:=q8q (z:=s::S) (a:=x::(s::S).filter fun c=>decide (c∉b::bs)) hS fun y hy=>by
      by_cases e:y=x
      ·exact e▸yyh
      ·refine yyi _ (yy6.2 ⟨hy,decide_eq_true fun hb=>?_⟩);rcases hX y hy x x1 e with k|k
       ·rw[hd y hb x x2] at k;cases k
       ·rw[hd x x2 y hb] at k;cases k
     simpa using this
    ·have:(s::S).filter (fun c=>decide (c∉b::bs))=s::S:=List.filter_eq_self.2 fun y hy=>decide_eq_true fun hb=>he ⟨y,hy,hb⟩;rw[this];omega
   simp only[List.length_cons] at hj ⊢;omega
end Ox.Gl
namespace Ox.Gl
variable {bt:Nat→Nat}{n:Nat}{o:List Nat}
def crM(bt:Nat→Nat)(n a c:Nat):Bool:=decide (a<n∧c<n∧a≠c∧bt a &&& bt c≠0)
def q5s:crM bt n a c=true↔a<n∧c<n∧a≠c∧bt a &&& bt c≠0:=decide_eq_true_iff
def PO(bt:Nat→Nat)(n:Nat)(o:List Nat)(a c:Nat):Bool:=crM bt n a c&&decide (o.idxOf a<o.idxOf c)
def q47:PO bt n o a c=true↔crM bt n a c=true∧o.idxOf a<o.idxOf c:=by unfold PO;rw[yyc,yyq]
def PO_irr(a:Nat):PO bt n o a a=false:=by
 cases e:PO bt n o a a
 ·rfl
 ·exact absurd (q47.1 e).2 (Nat.lt_irrefl _)
def PO_nb:NB (PO bt n o) n:=NB_idx (fun c=>o.idxOf c) fun a c h=>(q47.1 h).2
def PO_lin(ho:o.Perm (List.range n)):o.Pairwise fun x y=>PO bt n o y x=false:=by
 have ha:o.Nodup:=ho.nodup_iff.2 List.nodup_range;rw[List.pairwise_iff_getElem];intro i j hi hj hb;cases e:PO bt n o o[j] o[i]
 ·rfl
 ·have:=(q47.1 e).2;rw[ha.idxOf_getElem,ha.idxOf_getElem] at this;omega
def j0f(ho:o.Perm (List.range n))(ha:a<n)(hc:c<n)(h:a≠c):o.idxOf a<o.idxOf c∨o.idxOf c<o.idxOf a:=by
 have h1:=List.idxOf_lt_length_iff.2 (ho.mem_iff.2 (yyr.2 ha));have h2:=List.idxOf_lt_length_iff.2 (ho.mem_iff.2 (yyr.2 hc));have e1:=List.getElem_idxOf h1;have e2:=List.getElem_idxOf h2;rcases Nat.lt_trichotomy (o.idxOf a) (o.idxOf c) with k|k|k
 ·exact .inl k
 ·refine absurd ?_ h;rw[← e1,← e2];simp only[k]
 ·exact .inr k
def q9o(a c:Nat):crM bt n a c=crM bt n c a:=by rw[yy5,q5s,q5s,Nat.and_comm (bt a)];constructor<;>(rintro⟨h1,h2,h3,h4⟩;exact⟨h2,h1,fun e=>h3 e.symm,h4⟩)
def PO_crs(ho:o.Perm (List.range n)):crsP (PO bt n o)=crM bt n:=by
 funext a c;unfold crsP;rw[yy5,yyu,q47,q47];constructor
 ·rintro(⟨h,_⟩|⟨h,_⟩)
  ·exact h
  ·rw[q9o];exact h
 ·intro h;obtain⟨h1,h2,h3,_⟩:=q5s.1 h;rcases j0f ho h1 h2 h3 with k|k
  ·exact .inl ⟨h,k⟩
  ·exact .inr ⟨by rw[q9o];exact h,k⟩
abbrev rdM(bt:Nat→Nat)(n:Nat)(o:List Nat):List (List Nat):=rndL (PO bt n o) n 60 []
def z6y:(∀ c∈(rdM bt n o).flatten,c<n)∧(rdM bt n o).flatten.Nodup:=by obtain⟨h1,h2⟩:=q97 (P:=PO bt n o) (n:=n) 60 (q:=[]);exact⟨fun c hc=>(h1 c hc).1,h2⟩
def rdM_all(hn:n≤8)(hc:c<n):c∈(rdM bt n o).flatten:=(z6s (P:=PO bt n o) PO_nb 60 yxs (fun c h=>absurd h yxe) (by simp;omega) c hc).resolve_left yxe
def z6z(ho:o.Perm (List.range n)){r:List Nat}(hr:r∈rdM bt n o)(ha:a∈r)(hc:c∈r)(h:a≠c):bt a &&& bt c=0:=by
 obtain⟨h1,h2⟩:=q98 60 hr;refine yxy fun hb=>?_;have hm:crM bt n a c=true:=q5s.2 ⟨h1 a ha,h1 c hc,h,hb⟩;rcases j0f ho (h1 a ha) (h1 c hc) h with k|k
 ·have:=h2 a ha c hc;rw[q47.2 ⟨hm,k⟩] at this;cases this
 ·have:=h2 c hc a ha;rw[q47.2 ⟨by rw[q9o];exact hm,k⟩] at this;cases this
def manyM(bt:Nat→Nat)(n m:Nat):Nat:=((List.range n).filter fun i=>(bt i).testBit m).length
def rdM_many(ho:o.Perm (List.range n))(hn:n≤8)(m:Nat):manyM bt n m≤(rdM bt n o).length:=by
 refine z3a (P:=PO bt n o) PO_nb 60 (by simp;omega) yxs (fun c h=>absurd h yxe) (List.nodup_range.filter _) (fun c hc=>⟨yyr.1 (yy6.1 hc).1,yxe⟩) fun a ha c hc hd=>?_;obtain⟨a1,a2⟩:=yy6.1 ha;obtain⟨c1,c2⟩:=yy6.1 hc;have a1:=yyr.1 a1;have c1:=yyr.1 c1;have hb:bt a &&& bt c≠0:=fun e=>by
  have:(bt a &&& bt c).testBit m=true:=by rw[yx2,a2,c2];rfl
  rw[e] at this;simp at this
 have hm:crM bt n a c=true:=q5s.2 ⟨a1,c1,hd,hb⟩;rcases j0f ho a1 c1 hd with k|k
 ·exact .inl (q47.2 ⟨hm,k⟩)
 ·exact .inr (q47.2 ⟨by rw[q9o];exact hm,k⟩)
def z5a(m:Nat):manyM bt (n+1) m=manyM bt n m+if (bt n).testBit m=true then 1 else 0:=by
 unfold manyM;rw[List.range_succ,List.filter_append,yyx];by_cases e:(bt n).testBit m=true
 ·rw[if_pos e,List.filter_cons_of_pos (p:=fun i=>(bt i).testBit m) e];rfl
 ·rw[if_neg e,yx8 (p:=fun i=>(bt i).testBit m) e];rfl
end Ox.Gl
namespace Go.Proofs.YtjecebccchhmhaaGreatDoor
open Go Go.RowKit Ox Ox.Gl Ox.St
def crU(bt:Nat→Nat)(i k:Nat):List (List Int):=((List.range k).filter fun k=>decide (bt k &&& bt i≠0)).map fun k:Nat=>[(k:Int),(i:Int)]
def crT(bt:Nat→Nat)(i:Nat):List (List Int):=(List.range i).flatMap fun i=>crU bt i i
def crU_zero(bt:Nat→Nat)(i:Nat):crU bt i 0=[]:=rfl
def crU_succ(bt:Nat→Nat)(i k:Nat):crU bt i (k+1)=if bt k &&& bt i≠0 then crU bt i k++[[(k:Int),(i:Int)]] else crU bt i k:=by
 unfold crU;rw[List.range_succ,List.filter_append,yx0];by_cases h:bt k &&& bt i≠0
 ·rw[if_pos h,List.filter_cons_of_pos (by simpa using h)];rfl
 ·rw[if_neg h,yx8 (by simpa using h)];simp
def crT_zero(bt:Nat→Nat):crT bt 0=[]:=rfl
def z39(bt:Nat→Nat)(i:Nat):crT bt (i+1)=crT bt i++crU bt i i:=by simp[crT,List.range_succ]
variable{p:List Int}
def q9n:p∈crU bt i k↔∃ a,a<k∧bt a &&& bt i≠0∧p=[(a:Int),(i:Int)]:=by unfold crU;simp only[yxc,yy6,yyr,yyq];exact⟨fun⟨a,⟨h1,h2⟩,h3⟩=>⟨a,h1,h2,h3.symm⟩,fun⟨a,h1,h2,h3⟩=>⟨a,⟨h1,h2⟩,h3.symm⟩⟩
def q2w:p∈crT bt n↔∃ a i,a<i∧i<n∧bt a &&& bt i≠0∧p=[(a:Int),(i:Int)]:=by unfold crT;simp only[List.mem_flatMap,yyr,q9n];exact⟨fun⟨i,h1,a,h2,h3,h4⟩=>⟨a,i,h2,h1,h3,h4⟩,fun⟨a,i,h1,h2,h3,h4⟩=>⟨i,h2,a,h1,h3,h4⟩⟩
def z0y(bt:Nat→Nat)(i k:Nat):(crU bt i k).Nodup:=by
 unfold crU;refine List.Pairwise.map _ (fun a b h e=>h ?_) ((List.nodup_range (n:=k)).filter _);injection e with e _
 omega
def q4v(bt:Nat→Nat):∀ n,(crT bt n).Nodup
 |0=>yxs
 |n+1=>by
  rw[z39,List.nodup_append];refine⟨q4v bt n,z0y bt n n,fun p hp q hq e=>?_⟩;obtain⟨a,i,_,h2,_,rfl⟩:=q2w.1 hp;obtain⟨b,_,_,rfl⟩:=q9n.1 hq;injection e with _ e
  injection e with e _
  omega
def crTU_len(hi:i<8)(hk:k≤i):(crT bt i++crU bt i k).length≤28:=by
 refine z3i ?_ fun p hp=>?_
 ·rw[List.nodup_append];refine⟨q4v bt i,z0y bt i k,fun p hp q hq e=>?_⟩;obtain⟨a,j,_,h2,_,rfl⟩:=q2w.1 hp;obtain⟨b,_,_,rfl⟩:=q9n.1 hq;injection e with _ e
  injection e with e _
  omega
 ·rcases yy3.1 hp with h|h
  ·obtain⟨a,j,h1,h2,_,rfl⟩:=q2w.1 h;exact⟨a,j,h1,by omega,rfl⟩
  ·obtain⟨a,h1,_,rfl⟩:=q9n.1 h;exact⟨a,i,by omega,by omega,rfl⟩
def crT_len(hn:n≤8):(crT bt n).length≤28:=z3i (q4v bt n) fun p hp=>by obtain⟨a,j,h1,h2,_,rfl⟩:=q2w.1 hp;exact⟨a,j,h1,by omega,rfl⟩
def crT_ben(h1:1≤n)(h8:n≤8):benE n (crT bt n)=0:=by
 unfold benE;have ha:=crT_len (bt:=bt) h8;rw[if_neg (by omega),if_neg];intro hc;obtain⟨i,hi,hb⟩:=List.any_eq_true.1 hc;rw[yyr] at hi;unfold badP at hb;have hg:(crT bt n).getD i prT.dflt=(crT bt n)[i]:=by rw[yyp,yyv hi];rfl
 rw[hg] at hb;obtain⟨a,k,k1,k2,_,k3⟩:=q2w.1 (yy9 hi);have hb:=of_decide_eq_true hb;rcases hb with hb|hb|hb|hb
 ·rw[k3] at hb;have:p0 [(a:Int),(k:Int)]=a:=rfl;omega
 ·rw[k3] at hb;have:p1 [(a:Int),(k:Int)]=k:=rfl;omega
 ·rw[k3] at hb;have q1:p0 [(a:Int),(k:Int)]=a:=rfl;have q2:p1 [(a:Int),(k:Int)]=k:=rfl;omega
 ·obtain⟨j,hj,e⟩:=List.mem_take_iff_getElem.1 hb;have:=(List.getElem_inj (q4v bt n)).1 e;omega
def crT_crs(bt:Nat→Nat)(n:Nat):crs (crT bt n)=Ox.Gl.crM bt n:=by
 funext a c;rw[yy5,q5s];unfold crs;rw[List.any_eq_true];constructor
 ·rintro⟨p,hp,h⟩;obtain⟨x,i,h1,h2,h3,rfl⟩:=q2w.1 hp;have q1:(p0 [(x:Int),(i:Int)]).toNat=x:=rfl;have q2:(p1 [(x:Int),(i:Int)]).toNat=i:=rfl;have h:=of_decide_eq_true h;rw[q1,q2] at h;rcases h with⟨rfl,rfl⟩|⟨rfl,rfl⟩
  ·exact⟨by omega,h2,by omega,h3⟩
  ·exact⟨h2,by omega,by omega,by rw[Nat.and_comm];exact h3⟩
 ·rintro⟨h1,h2,h3,h4⟩;rcases Nat.lt_or_ge a c with h|h
  ·exact⟨[(a:Int),(c:Int)],q2w.2 ⟨a,c,h,h2,h4,rfl⟩,decide_eq_true (.inl ⟨rfl,rfl⟩)⟩
  ·exact⟨[(c:Int),(a:Int)],q2w.2 ⟨c,a,by omega,h1,by rw[Nat.and_comm];exact h4,rfl⟩,decide_eq_true (.inr ⟨rfl,rfl⟩)⟩
def ord_lst(h1:1≤n)(h8:n≤8)(ho:o.Perm (List.range n)):lstE n (crT bt n) (o.map stk)=0:=by
 unfold lstE;have hl:(o.map stk).length=n:=by rw[yx4,ho.length_eq,List.length_range]
 rw[if_neg (by rw[crT_ben h1 h8];simp),if_neg (by omega),if_pos];have hm:∀ x∈o.map stk,1≤x∧x≤n:=fun x hx=>by obtain⟨c,hc,rfl⟩:=yxc.1 hx;have:=yyr.1 (ho.mem_iff.1 hc);unfold stk;omega
 exact⟨fun x hx=>by have:=hm x hx;omega,fun h=>by have:=hm 0 h;omega⟩
end Go.Proofs.YtjecebccchhmhaaGreatDoor
namespace Go.Proofs.YtjecebccchhmhaaGreatDoor
open Go Go.RowKit Ox Ox.St
attribute [local irreducible] JC JL JK JW
abbrev rsT:Ty:=.arr 8 (.slice (.int .i64))
abbrev piT:Ty:=.cons (.ptr tbT) (.cons rsT .nil)
def fn118(s:Int)(h0:s≠0)(h:lnS s<8):Ox.Fn Tryz.prog 118 (.acons (vI s) .anil) (·=vI (lnS s:Nat)):=by refine Ox.Fn.intro xok Tryz.func118 rfl Tryz.call118 (yyd rfl) (fun E M0 up=>?_);refine JK.start ?_;unfold lnS at h;refine zK0 ?_;refine zR rfl trivial ?_;refine congrArg vI ?_;unfold lnS;omega
abbrev piV(n:Int)(ps:List (List Int)):AV:=.mix (vTb n ps) (.mix (.mix (.lf (.osl 1)) (.mix (.lf (.osl 2)) (.mix (.lf (.osl 3)) (.mix (.lf (.osl 4)) (.mix (.lf (.osl 5)) (.mix (.lf (.osl 6)) (.mix (.lf (.osl 7)) (.mix (.lf (.osl 8)) (.val (.arr 0 (.slice (.int .i64))) []))))))))) (.val .nil ()))
abbrev piH(n:Int)(ps:List (List Int))(R:Nat→List Int):List (Nat×HO):=[(0,.cell piT (piV n ps)),(1,.sl 3 (.int .i64) (R 0)),(2,.sl 3 (.int .i64) (R 1)),(3,.sl 3 (.int .i64) (R 2)),(4,.sl 3 (.int .i64) (R 3)),(5,.sl 3 (.int .i64) (R 4)),(6,.sl 3 (.int .i64) (R 5)),(7,.sl 3 (.int .i64) (R 6)),(8,.sl 3 (.int .i64) (R 7))]
abbrev fr63(l:List Int)(i:Nat):List (Nat×AV):=[(5,.lf (.optr 0 [])),(11,vL l),(12,vI l.length),(13,vI (i:Int))]
def updK(T:Nat→List Int)(k:Nat)(y:List Int):Nat→List Int:=fun j=>cond (Nat.beq j k) y (T j)
def layK(X:Nat→Nat→Bool)(R:Nat→List Int)(s:Int)(k:Nat):Nat→List Int:=fun j=>cond (Nat.blt j k) (layR X R s j) (R j)
def blt_d(a b:Nat):Nat.blt a b=decide (a<b):=by rw[yy5,yyq,Nat.blt_eq]
def beq_d(a b:Nat):Nat.beq a b=decide (a=b):=by rw[yy5,yyq,Nat.beq_eq]
def layK_at(X:Nat→Nat→Bool)(R:Nat→List Int)(s:Int)(k:Nat):layK X R s k k=R k:=by unfold layK;rw[blt_d];simp
def z8k(X:Nat→Nat→Bool)(R:Nat→List Int)(s:Int)(k:Nat):layK X R s (k+1)=updK (layK X R s k) k (layR X R s k):=by
 funext j;unfold updK layK;rw[blt_d,blt_d,beq_d];rcases Nat.lt_trichotomy j k with h|h|h
 ·have h1:¬ j=k:=by omega
  have h2:j<k+1:=by omega
  simp[h,h1,h2]
 ·subst h;simp
 ·have h1:¬ j=k:=by omega
  have h2:¬ j<k+1:=by omega
  have h3:¬ j<k:=by omega
  simp[h1,h2,h3]
def undB(R:Nat→List Int)(s:Int):Bool:=decide ((R (lnS s)).getLast?=some (-s))
variable{n:Int}
set_option maxHeartbeats 8000000 in
def lay_in{ps:List (List Int)}(hb:benE n ps=0)(l:List Int)(i:Nat)(R:Nat→List Int)(s:Int)(h0:s≠0)(hs:lnS s<8)(hR:∀ k,(R k).length≤100)
  (hu:undB R s=true→∀ k,k<8→k=lnS s∨crs ps (lnS s) k=true→R k≠[])
  {E:World} {M0 M1 M2:Mem} {nn n1:Nat} {up up1 up2:Nat→Nat→Value} {K:AV→List (Nat×AV)→List (Nat×HO)→Nat→Prop} (hK:K (resV .anil) (fr63 l i) ((9,.fr 0 [])::piH n ps (layR (crs ps) R s)) 11) :
  JK (Ctx.sub (Ctx.sub ⟨Tryz.prog,tys,ets,mts,E,M0,nn,none,up,0⟩ M1 n1 none up1) M2 Tryz.f116.ntmps none up2) [.code (Tryz.f116.body.getD .skip)]
   (inlQ (Ctx.sub ⟨Tryz.prog,tys,ets,mts,E,M0,nn,none,up,0⟩ M1 n1 none up1) Tryz.f116.results.toList K) ⟨[(0,.lf (.optr 0 [])),(1,vI s)],(10,.fr 1 (fr63 l i))::(9,.fr 0 [])::piH n ps R,11⟩:=by
 have c135:=fn118 s h0 hs;obtain⟨hF,hA⟩:=z4a ps (ben_lt hb);have hG:-8≤s∧s≤8:=by unfold lnS at hs;omega
 refine cdf (fn:=Tryz.f116) rfl ?_;refine zs rfl ?_;refine zs rfl ?_;refine zs rfl ?_;refine zc rfl c135 rfl rfl ?_;refine zs rfl ?_;refine zs rfl ?_;refine zs rfl ?_;refine JK.cut (σ:=Unit) (fun _=>⟨[(0,.lf (.optr 0 [])),(1,vI s),(4,vI (lnS s:Nat)),(5,vI (R (lnS s)).length)],(10,.fr 1 (fr63 l i))::(9,.fr 0 [])::piH n ps R,11⟩) (fun _=>True) ?_ fun _ _=>?_
 ·generalize lnS s=o at hs ⊢;rcases(show o=0∨o=1∨o=2∨o=3∨o=4∨o=5∨o=6∨o=7 by omega) with rfl|rfl|rfl|rfl|rfl|rfl|rfl|rfl
  all_goals (refine zK0 ?_;exact⟨(),by exact zJ,trivial⟩)
 refine zs rfl ?_;refine JK.cut (σ:=Unit) (fun _=>⟨[(0,.lf (.optr 0 [])),(1,vI s),(4,vI (lnS s:Nat)),(6,vB (undB R s))],(10,.fr 1 (fr63 l i))::(9,.fr 0 [])::piH n ps R,11⟩) (fun _=>True) ?_ fun _ _=>?_
 ·obtain⟨D,hD⟩:∃ D,R (lnS s)=D:=⟨_,rfl⟩;have hH:D.length≤100:=hD▸hR (lnS s);have hU:undB R s=bif decide ((0:Int)<(D.length:Int)) then(D.getD (Int.toNat ((D.length:Int)-1)) 0==0-s) else false:=by
   unfold undB;rw[hD,yy5];rcases List.eq_nil_or_concat D with h|⟨r,t,h⟩
   ·subst h;simp
   ·subst h;simp[yyp]
  rw[hU,hD];generalize lnS s=o at hs hD ⊢;rcases(show o=0∨o=1∨o=2∨o=3∨o=4∨o=5∨o=6∨o=7 by omega) with rfl|rfl|rfl|rfl|rfl|rfl|rfl|rfl
  all_goals (subst hD;clear hU;refine zK0 ?_;exact⟨(),by exact zJ,trivial⟩)
 refine zK0 ?_;refine JK.loop (fun k:Nat=>⟨[(0,.lf (.optr 0 [])),(1,vI s),(4,vI (lnS s:Nat)),(6,vB (undB R s)),(34,vI (k:Int))],(10,.fr 1 (fr63 l i))::(9,.fr 0 [])::piH n ps (layK (crs ps) R s k),11⟩) (fun k=>k≤8) (fun k=>8-k) 0 (yyw _) (by exact zJ) fun k hk=>?_;have hup:=z8k (crs ps) R s k;have hp:=layK_at (crs ps) R s k;have hr:∀ y,y=layR (crs ps) R s k→y=layR (crs ps) R s k:=fun _ h=>h;have hg:k≠lnS s→crs ps (lnS s) k=false→layR (crs ps) R s k=R k:=fun q1 q2=>by unfold layR;rw[if_pos ⟨q1,q2⟩]
 have hd:¬ (k≠lnS s∧crs ps (lnS s) k=false)→undB R s=true→layR (crs ps) R s k=(R k).take (Int.toNat (((R k).length:Int)-1)):=fun q1 q2=>by unfold layR;rw[if_neg q1,if_pos (of_decide_eq_true q2),List.dropLast_eq_take];congr 1;omega
 have hh:k=lnS s→undB R s=false→layR (crs ps) R s k=R k++[s]:=fun q1 q2=>by unfold layR;rw[if_neg (fun h=>h.1 q1),if_neg (of_decide_eq_false q2),if_pos q1]
 have he:k≠lnS s→crs ps (lnS s) k=true→undB R s=false→layR (crs ps) R s k=R k++[0]:=fun q1 q2 q3=>by unfold layR;rw[if_neg (fun h=>by rw[q2] at h;cases h.2),if_neg (of_decide_eq_false q3),if_neg q1]
 have ha:undB R s=true→¬ (k≠lnS s∧crs ps (lnS s) k=false)→k<8→R k≠[]:=fun q1 q2 q3=>hu q1 k q3 (by
  by_cases e:k=lnS s
  ·exact .inl e
  ·right;cases hX:crs ps (lnS s) k
   ·exact absurd ⟨e,hX⟩ q2
   ·rfl)
 have hy:=hR k;have hj:=fun q:k<8=>hA (lnS s) k hs q;have hl:k=8→piH n ps (layK (crs ps) R s k)=piH n ps (layR (crs ps) R s):=fun e=>by subst e;rfl
 rw[← hp] at hg hd hh he ha hy;generalize layK (crs ps) R s k=T at hup hp hg hd hh he ha hy hl ⊢;generalize layR (crs ps) R s k=Y at hup hg hd hh he;clear hp hr;obtain⟨k1,hz⟩:∃ k1,k1=k+1:=⟨_,rfl⟩;rw[← hz] at hup;have hki:((k1:Nat):Int)=(k:Int)+1:=by omega
 have hv:k<8→k1≤8∧8-k1<8-k:=fun h=>by omega
 clear hz;generalize undB R s=U at hd hh he ha ⊢;generalize lnS s=o at hs hg hd hh he ha hj ⊢;unfold crAt at hj;have hB:k<8→(bif ((k:Int) != (o:Int)) then(((crM ps).getD (Int.toNat (o:Int)) rwT.dflt).getD (Int.toNat (k:Int)) (Ty.int .i64).dflt==0) else false)=(!decide (k=o)&&!crs ps o k):=fun h8=>by
  rw[Int.toNat_natCast,Int.toNat_natCast];by_cases e:k=o
  ·subst e;simp
  ·have e2:((k:Int) != (o:Int))=true:=by simp;omega
   rw[e2];have hj:=hj h8;have hC:((crM ps).getD o rwT.dflt).getD k (Ty.int .i64).dflt=((crM ps).getD o rwT.dflt).getD k 0:=rfl;rw[cond_true,hC,hj];cases crs ps o k<;>simp[e]
 have hO:((k:Int)==(o:Int))=decide (k=o):=by rw[yy5];simp;omega
 refine zK0 ?_;refine z5 rfl (fun hc=>?_) (fun hc=>?_)
 ·replace hc:=zC hc;have hw:k<8:=by omega
  obtain⟨n1,n2⟩:=hv hw;replace ha:=fun q1 q2=>ha q1 q2 hw;replace hB:=hB hw;generalize crs ps o k=W at hg hd he ha hB;clear hj hc;rcases(show k=0∨k=1∨k=2∨k=3∨k=4∨k=5∨k=6∨k=7 by omega) with rfl|rfl|rfl|rfl|rfl|rfl|rfl|rfl
  all_goals
   refine zK0 ?_;refine z5 rfl (fun hc=>?_) (fun hc=>?_)
   ·have q:=hB.symm.trans hc;rw[yyc,yys,yys,decide_eq_false_iff_not] at q;refine zK0 ?_;refine⟨k1,?_,n1,n2⟩;rw[hup,hki,hg q.1 q.2];exact zJ
   ·have q:=hB.symm.trans hc;rw[Bool.and_eq_false_iff,Bool.not_eq_false',Bool.not_eq_false',yyq] at q;refine zK0 ?_;refine z5 rfl (fun hU=>?_) (fun hU=>?_)
    ·have hJ:=List.length_pos_iff.2 (ha hU (fun h=>q.elim h.1 (fun e=>Bool.false_ne_true (h.2.symm.trans e))));have hY:=hd (fun h=>q.elim h.1 (fun e=>Bool.false_ne_true (h.2.symm.trans e))) hU;refine q5a xk (Tryz.f116.body.getD .skip) rfl 21 rfl ?_
     (refine q7 0 xk rfl rfl (q7 1 xk rfl rfl (q7 2 xk rfl rfl (q7 3 xk rfl rfl (q7 4 xk rfl rfl (q7 5 xk rfl rfl (q7 6 xk rfl rfl (q7 8 xk rfl rfl (q7 9 xk rfl rfl (q7 10 xk rfl rfl (q7 11 xk rfl rfl (q7 12 xk rfl rfl (q7 17 xk rfl rfl (q7 18 xk rfl rfl (j3 7 xk rfl rfl (j3 13 xk rfl rfl (j3 14 xk rfl rfl (j3 15 xk rfl rfl (j3 16 xk rfl rfl (j3 19 xk rfl rfl (zU 20 xk rfl rfl ?_))))))))))))))))))));(first|(refine JL.cutS (d:=86) rfl rfl ?_ (by(exact zD));refine JL.M0 xk rfl ?_)|refine JL.M0 xk rfl ?_);refine w4 ?_;refine q0b xk StF.nil ?_;((refine zK0 ?_;refine⟨k1,?_,n1,n2⟩;rw[hup,hki,hY];exact zJ)))
    ·refine zK0 ?_;refine z5 rfl (fun hE=>?_) (fun hE=>?_)
     ·have e:=of_decide_eq_true (hO.symm.trans hE);have hY:=hh e hU;refine q5a xk (Tryz.f116.body.getD .skip) rfl 15 rfl ?_
      (refine q7 0 xk rfl rfl (q7 1 xk rfl rfl (q7 2 xk rfl rfl (q7 3 xk rfl rfl (q7 4 xk rfl rfl (q7 5 xk rfl rfl (q7 6 xk rfl rfl (q7 8 xk rfl rfl (q7 11 xk rfl rfl (q7 12 xk rfl rfl (j3 7 xk rfl rfl (zU 9 xk rfl rfl ?_)))))))))));(refine z1g xk rfl rfl ?_);refine w4 ?_;refine zU 10 xk rfl rfl ?_;(first|refine z1g xk rfl rfl ?_|refine JL.M0 xk rfl ?_);refine w4 ?_;refine q7 13 xk rfl rfl (zU 14 xk rfl rfl ?_);exact zB0)
     ·have e:=of_decide_eq_false (hO.symm.trans hE);have hY:=he e (q.resolve_left e) hU;refine q5a xk (Tryz.f116.body.getD .skip) rfl 14 rfl ?_
      (refine q7 0 xk rfl rfl (q7 1 xk rfl rfl (q7 2 xk rfl rfl (q7 3 xk rfl rfl (q7 4 xk rfl rfl (q7 5 xk rfl rfl (q7 6 xk rfl rfl (q7 10 xk rfl rfl (q7 11 xk rfl rfl (j3 7 xk rfl rfl (zU 8 xk rfl rfl ?_))))))))));(refine z1g xk rfl rfl ?_);refine w4 ?_;refine zU 9 xk rfl rfl ?_;(first|refine z1g xk rfl rfl ?_|refine JL.M0 xk rfl ?_);refine w4 ?_;refine q7 12 xk rfl rfl (zU 13 xk rfl rfl ?_);exact zB0)
 ·replace hc:=zC hc;rw[hl (by omega)];refine zK0 ?_;exact q23 (z30 rfl rfl rfl rfl hK)
def z9t{X:Nat→Nat→Bool}(k:Nat):∀ rv:List Int,(bld X rv k).length≤rv.length
 |[]=>yyo _
 |t::r=>by
  have:=z9t (X:=X) k r;simp only[bld,yyx,List.length_cons];have:(ext X t k).length≤1:=by
   unfold ext;split
   ·simp
   ·split<;>simp
  omega
def okS(l:List Int):Prop:=∀ s∈l,s≠0∧lnS s<8
def ok_lst{ps:List (List Int)}(h:lstE n ps l=0):okS l:=fun s hs=>by obtain⟨h1,_,h2⟩:=z8a h;have:=h2 s hs;have:=(z4g h1).1;unfold lnS;exact⟨by omega,by omega⟩
abbrev plR(ps:List (List Int))(l:List Int):Nat→List Int:=layL (X:=crs ps) (fun _=>[]) l
def z3g(ps:List (List Int))(h:okS l):∃ rv,Pile (crs ps) rv (plR ps l)∧rv.length≤l.length∧okS rv:=by
 obtain⟨rv,p,h1,h2⟩:=Pile.layL (z38 ps) (u:=l) (Pile.nil (X:=crs ps)) (fun s hs=>(h s hs).1);refine⟨rv,p,by simpa using h1,fun t ht=>h t ?_⟩;rcases h2 t ht with h|h
 ·exact h
 ·simp at h
def plR_len(ps:List (List Int))(h:okS l)(k:Nat):(plR ps l k).length≤l.length:=by obtain⟨rv,p,h1,_⟩:=z3g ps h;rw[p.eq];exact Nat.le_trans (z9t k rv) h1
def plR_undo(ps:List (List Int))(h:okS l)(h0:s≠0)(hu:undB (plR ps l) s=true)(k:Nat)(hk:k=lnS s∨crs ps (lnS s) k=true):plR ps l k≠[]:=by
 obtain⟨rv,p,_⟩:=z3g ps h;obtain⟨_,_,_,_,_,e⟩:=p.undo (z38 ps) h0 (of_decide_eq_true hu);rw[e k];intro hc;have:=(List.append_eq_nil_iff.1 hc).2;unfold ext at this;rw[q5j] at this;rcases hk with rfl|hk
 ·simp at this
 ·by_cases e:k=lnS s
  ·simp[e] at this
  ·simp[e,hk] at this
def z3k(h:okS l)(i:Nat):okS (l.take i):=fun s hs=>h s (List.mem_of_mem_take hs)
abbrev piD(n:Int)(ps:List (List Int))(R:Nat→List Int):piT.den:=(some (tbV n ps),rowsD R,())
set_option maxHeartbeats 8000000 in
def pile_in{ps:List (List Int)}(hb:benE n ps=0)(hl:okS l)(hj:l.length≤60)
  {E:World} {M0 M1:Mem} {nn:Nat} {up up1:Nat→Nat→Value} {K:AV→List (Nat×AV)→List (Nat×HO)→Nat→Prop} (hK:K (.lf (.optr 0 [])) [] [(0,.cell piT (.val piT (piD n ps (plR ps l))))] 10) :
  JK (Ctx.sub ⟨Tryz.prog,tys,ets,mts,E,M0,nn,none,up,0⟩ M1 Tryz.f51.ntmps none up1) [.code (Tryz.f51.body.getD .skip)]
   (inlQ ⟨Tryz.prog,tys,ets,mts,E,M0,nn,none,up,0⟩ Tryz.f51.results.toList K) ⟨[(0,vTb n ps),(1,vL l)],[(0,.fr 0 [])],1⟩:=by
 refine cdf (fn:=Tryz.f51) rfl ?_;refine zK0 ?_;refine c9 1 [true,false,false] 3 (.int .i64) rfl rfl ?_;refine c9 1 [true,false,true,false] 3 (.int .i64) rfl rfl ?_;refine c9 1 [true,false,true,true,false] 3 (.int .i64) rfl rfl ?_;refine c9 1 [true,false,true,true,true,false] 3 (.int .i64) rfl rfl ?_;refine c9 1 [true,false,true,true,true,true,false] 3 (.int .i64) rfl rfl ?_;refine c9 1 [true,false,true,true,true,true,true,false] 3 (.int .i64) rfl rfl ?_;refine c9 1 [true,false,true,true,true,true,true,true,false] 3 (.int .i64) rfl rfl ?_;refine c9 1 [true,false,true,true,true,true,true,true,true,false] 3 (.int .i64) rfl rfl ?_;refine JK.loop (fun i:Nat=>⟨[(5,.lf (.optr 0 [])),(11,vL l),(12,vI l.length),(13,vI (i:Int))],(9,.fr 0 [])::piH n ps (plR ps (l.take i)),10⟩) (fun i=>i≤l.length) (fun i=>l.length-i) 0 (yyw _) (by exact zJ) fun i hi=>?_;have ha:=plR_len ps (z3k hl i);have hd:=fun s h0 hu k hk=>plR_undo ps (z3k hl i) (s:=s) h0 hu k hk;have he:i<l.length→plR ps (l.take (i+1))=layR (crs ps) (plR ps (l.take i)) (l.getD i 0):=fun h=>by rw[yxg h,j4 l h];show layL _ _=_;rw[q4o];rfl
 have hp:(l.take i).length≤60:=by rw[yxh];omega
 have hg:i=l.length→plR ps (l.take i)=plR ps l:=fun e=>by rw[e,yxr]
 generalize plR ps (l.take i)=R at ha hd he hg ⊢;refine zK0 ?_;refine z5 rfl (fun hc=>?_) (fun hc=>?_)
 ·replace hc:=zC hc;have hh:i<l.length:=by omega
  have he:=he hh;have hz:l.getD (Int.toNat (i:Int)) (Ty.int .i64).dflt=l.getD i 0:=rfl;have hs:l.getD i 0∈l:=by rw[j4 l hh];exact yy9 hh
  obtain⟨q1,q2⟩:=hl _ hs;generalize l.getD i 0=s at he hs q1 q2 hz;refine zK0 ?_;refine z4s [5,11,12,13] rfl rfl trivial Tryz.func116 rfl Tryz.call116 (yyd rfl) rfl fun M2 up2=>?_;refine cdt (fn:=Tryz.f116) rfl ?_;rw[hz];show JK _ _ _ ⟨[(0,.lf (.optr 0 [])),(1,vI s)],(10,.fr 1 (fr63 l i))::(9,.fr 0 [])::piH n ps R,11⟩;refine lay_in hb l i R s q1 q2 (fun k=>Nat.le_trans (ha k) (by omega)) (fun hu k _ hk=>hd s q1 hu k hk) ?_;rw[← he];refine zK0 ?_;exact⟨i+1,by exact zJ,by omega,by omega⟩
 ·replace hc:=zC hc;rw[hg (by omega)]
  (refine q57 [1,2,3,4,5,6,7,8] [5] rfl ?_)
  refine z4u 0 rfl rfl ?_;refine zK0 ?_;exact q9a rfl rfl rfl rfl hK
def fn153(xs ys:List Int):Ox.Fn Tryz.prog 153 (.acons (vL xs) (.acons (vL ys) .anil)) (·=vB (decide (xs=ys))):=by
 refine Ox.Fn.intro xok Tryz.func153 rfl Tryz.call153 (yyd rfl) (fun E M0 up=>?_);refine JK.start ?_;refine JK.lenOf 0 rfl fun hb=>?_;refine JK.lenOf 1 rfl fun ha=>?_;replace hb:xs.length≤9223372036854775807:=hb.1;replace ha:ys.length≤9223372036854775807:=ha.1;refine zK0 ?_;refine z5 rfl (fun hc=>?_) (fun hc=>?_)
 ·replace hc:=zC hc;refine zK0 ?_;refine zR rfl trivial ?_;have:¬ xs=ys:=fun h=>by rw[h] at hc;exact hc rfl
  rw[decide_eq_false this]
 ·replace hc:=zC hc;have hl:xs.length=ys.length:=by omega
  refine zK0 ?_;refine JK.loop (fun i:Nat=>⟨[(0,vL xs),(1,vL ys),(12,vI xs.length),(13,vI (i:Int))],[],0⟩) (fun i=>i≤xs.length∧xs.take i=ys.take i) (fun i=>xs.length-i) 0 ⟨yyw _,rfl⟩ (by exact zJ) fun i ⟨hi,hn⟩=>?_;refine zK0 ?_;refine z5 rfl (fun hd=>?_) (fun hd=>?_)
  ·replace hd:=zC hd;have hg:i<xs.length:=by omega
   have e1:xs.getD (Int.toNat (i:Int)) (Ty.int .i64).dflt=xs[i]:=j4 xs hg _;have e2:ys.getD (Int.toNat (i:Int)) (Ty.int .i64).dflt=ys[i]'(by omega):=j4 ys (by omega) _;refine zK5 ?_;refine q22 xk (Tryz.f153.body.getD .skip) ⟨[(0,vL xs),(1,vL ys),(12,vI xs.length),(13,vI (i:Int)),(24,vB (xs[i] != ys[i]'(by omega)))],[],0⟩ rfl 9 rfl ?_ ?_
   ·rw[← e1,← e2]
    (refine q7 0 xk rfl rfl (q7 1 xk rfl rfl (q7 2 xk rfl rfl (q7 4 xk rfl rfl (q7 5 xk rfl rfl (q7 6 xk rfl rfl (j3 3 xk rfl rfl (j3 7 xk rfl rfl (j3 8 xk rfl rfl ?_))))))));refine q0b xk ?_ ?_;exact zS;(exact zJ))
   refine z5 rfl (fun he=>?_) (fun he=>?_)
   ·refine zK0 ?_;refine zR rfl trivial ?_;have:¬ xs=ys:=fun h=>by subst h;simp at he
    rw[decide_eq_false this]
   ·refine zK0 ?_;refine⟨i+1,by exact zJ,⟨by omega,?_⟩,by omega⟩;rw[yxg hg,yxg (by omega),hn];congr 2;simpa using he
  ·replace hd:=zC hd;refine zK0 ?_;refine zR rfl trivial ?_;have:i=xs.length:=by omega
   subst this;rw[yxr,hl,yxr] at hn;simp[hn]
def q63(R:Nat→List Int):∀ {n k:Nat},k≤n→∃ post,frontsN R n=frontsN R k++post
 |0,k,h=>⟨[],by rw[show k=0 by omega];rfl⟩
 |n+1,k,h=>by
  rcases Nat.lt_or_ge n k with h1|h1
  ·exact⟨[],by rw[show k=n+1 by omega,yxb]⟩
  ·obtain⟨p,hp⟩:=q63 R (n:=n) (k:=k) h1;exact⟨p++frontK (R n),by rw[frontsN,hp,yxj]⟩
section
variable {E:World}{Mx M0:Mem}{nX:Nat}{rdX:Option Nat}{up:Nat→Nat→Value}{dp lab:Nat}{r:List Fr}{QA:Exit→S→Prop}
def front_it(R:Nat→List Int)(K:List Int→List (Nat×HO))
  (hY:∀ pre s post,frontsR R=pre++s::post→YO ⟨Tryz.prog,tys,ets,mts,E,Mx,nX,rdX,up,dp⟩ 30 lab (.acons (vI s) .anil) (K pre) 100 true (K (pre++[s])) 100)
  (k:∀ L,JK ⟨Tryz.prog,tys,ets,mts,E,M0,30,none,up,dp⟩ r QA ⟨L,K (frontsR R),100⟩) :
  JK ⟨Tryz.prog,tys,ets,mts,E,M0,30,none,up,dp⟩ (.code (lpC Tryz.f117.body)::.blk 0::r) QA ⟨[(0,.lf (.yld lab)),(8,.val rsT (rowsD R)),(9,vI 0)],K [],100⟩:=by
 refine JK.loop (fun i:Nat=>⟨[(0,.lf (.yld lab)),(8,.val rsT (rowsD R)),(9,vI (i:Int))],K (frontsN R i),100⟩) (fun i=>i≤8) (fun i=>8-i) 0 (yyw _) (JW.refl _) fun i hi=>?_;refine zK0 ?_;refine z5 rfl (fun hc=>?_) (fun hc=>?_)
 ·replace hc:=zC hc;have hg:i<8:=by omega
  have hz:(rowsD R).getD (Int.toNat (i:Int)) (Ty.slice (.int .i64)).dflt=R i:=q94 R hg _;obtain⟨post,ha⟩:=q63 R (n:=8) (k:=i+1) (by omega);have hb:frontsN R (i+1)=frontsN R i++frontK (R i):=rfl;rw[hb] at ha
  (repeat (first|refine zu rfl ?_|refine zg rfl rfl rfl ?_|refine zd ?_|refine w9 ?_|refine w7 ?_))
  rw[hz];generalize frontsN R i=pre at hb ha ⊢;generalize R i=D at hb ha ⊢;cases D with
  |nil=>
   rw[show frontK []=[] from rfl,yxb] at hb
   (repeat (first|refine zs rfl ?_|refine zfl rfl rfl rfl ?_|refine q9s rfl rfl rfl rfl trivial trivial ?_))
   refine z5 rfl (fun h=>by cases h) (fun _=>?_);refine zK0 ?_;refine⟨i+1,?_,by omega,by omega⟩;rw[hb];exact JW.same ⟨rfl,rfl,rfl,trivial⟩
  |cons x y=>
   have he:decide ((0:Int)<((x::y).length:Int))=true:=by simp
   by_cases hx:x=0
   ·rw[show frontK (x::y)=[] by simp[frontK,hx],yxb] at hb;have hd:(bif decide ((0:Int)<((x::y).length:Int)) then(x != 0) else false)=false:=by rw[he,hx];rfl
    (repeat (first|refine zs rfl ?_|refine zt rfl (by show wantB true (decide ((0:Int)<((x::y).length:Int)))=true;rw[he];rfl) ?_|refine zfl rfl (by show wantB true (bif decide ((0:Int)<((x::y).length:Int)) then(x != 0) else false)=false;rw[hd];rfl) rfl ?_|refine q9s rfl hd rfl rfl trivial trivial ?_))
    refine z5 rfl (fun h=>by cases h) (fun _=>?_);refine zK0 ?_;refine⟨i+1,?_,by omega,by omega⟩;rw[hb];exact JW.same ⟨rfl,rfl,rfl,trivial⟩
   ·rw[show frontK (x::y)=[x] by simp[frontK,hx]] at hb ha;have y1:=hY pre x post (by rw[show frontsR R=frontsN R 8 from rfl,ha];simp);rw[← hb] at y1;have hd:(bif decide ((0:Int)<((x::y).length:Int)) then(x != 0) else false)=true:=by rw[he,cond_true];simpa using hx
    (repeat (first|refine zs rfl ?_|refine zt rfl (by show wantB true (decide ((0:Int)<((x::y).length:Int)))=true;rw[he];rfl) ?_|refine zt rfl (by show wantB true (bif decide ((0:Int)<((x::y).length:Int)) then(x != 0) else false)=true;rw[hd];rfl) ?_))
    refine z1h (X:=⟨Tryz.prog,tys,ets,mts,E,Mx,nX,rdX,up,dp⟩) [0,8,9,21] y1 rfl rfl rfl (by simp[stayL,stayB,svL,lk]) trivial ?_
    (repeat (first|refine zs rfl ?_|refine zt rfl (by show wantB true (bif decide ((0:Int)<((x::y).length:Int)) then(x != 0) else false)=true;rw[hd];rfl) ?_))
    refine z5 rfl (fun h=>by revert h;cases (bif decide ((0:Int)<((x::y).length:Int)) then(x != 0) else false)<;>simp) (fun _=>?_);refine zK0 ?_;exact⟨i+1,JW.same ⟨rfl,rfl,rfl,trivial⟩,by omega,by omega⟩
 ·replace hc:=zC hc;obtain rfl:i=8:=by omega
  refine zK0 ?_;exact k _
end
def takK(X:Nat→Nat→Bool)(R:Nat→List Int)(s:Int)(k:Nat):Nat→List Int:=fun j=>if j<k then takeR X R s j else R j
def takK_at(X:Nat→Nat→Bool)(R:Nat→List Int)(s:Int)(k:Nat):takK X R s k k=R k:=by simp[takK]
def z59(X:Nat→Nat→Bool)(R:Nat→List Int)(s:Int)(h:k<8):rowsD (takK X R s (k+1))=(rowsD (takK X R s k)).set k (takeR X R s k):=by
 rw[z6p _ h];congr 1;funext j;unfold takK;rcases Nat.lt_trichotomy j k with h|h|h
 ·rw[if_pos (by omega),if_neg (by omega),if_pos h]
 ·rw[if_pos (by omega),if_pos h,h]
 ·rw[if_neg (by omega),if_neg (by omega),if_neg (by omega)]
def z6a(X:Nat→Nat→Bool)(R:Nat→List Int)(s:Int)(k:Nat)(h:takeR X R s k=R k):takK X R s (k+1)=takK X R s k:=by
 funext j;unfold takK;rcases Nat.lt_trichotomy j k with h2|h2|h2
 ·rw[if_pos (by omega),if_pos h2]
 ·subst h2;rw[if_pos (by omega),if_neg (by omega),h]
 ·rw[if_neg (by omega),if_neg (by omega)]
abbrev piE(n:Int)(ps D:List (List Int)):piT.den:=(some (tbV n ps),D,())
def q33(R:Nat→List Int):∀ n,(frontsN R n).length≤n
 |0=>yyo _
 |n+1=>by
  have:=q33 R n;have h2:(frontK (R n)).length≤1:=by
   unfold frontK;split
   ·split<;>simp
   ·simp
  simp only[frontsN,yyx];omega
end Go.Proofs.YtjecebccchhmhaaGreatDoor
namespace Ox
open Go Go.RowKit
variable {X:Ctx}{s:S}{M:Mem}{ρ:Env}{a:Act}{w w':World}{QA:Exit→S→Prop}{all l:List Oper}{o:Oper}
def JL.inlN(Kp:List Nat)(d0:Nat){c:Code}{fst cap az:AV}{cs1 cs2:List Prop}{fo:Operand}{args:Array Operand}{tys:Array TypeId}(hg:o.guard=none)(hj:o.op=.call {callee:=.value fo,args:=args,argTypes:=tys})
  (h0:lk s.L d0=some (.lf .nils)) (hu:opd s.L fo=some (cs1,.fn f fst cap)) (ha:opds s.L args.toList=some (cs2,az)) (hc:allP (cs1++cs2)) (hf:X.P.funcs[f]?=some fn) (hb:fn.body=some c) (hh:∀ az w,(callFunc f az).run X.P w=.ok (.enter f az) w)
  (hn:argN (apA fst (apA az cap))≤fn.ntmps) (hd:dstOk X.n o.dst)
  (h:∀ M0 up,JC (X.sub M0 fn.ntmps none up) c (inlQ X fn.results.toList fun r L H nx=>JL X true all QA l (putS o.dst r ⟨(d0,.lf .nils)::L,H,nx⟩)) ⟨argL (apA fst (apA az cap)) 0,(s.nx,.fr X.dp (svL s.L Kp))::s.H,s.nx+1⟩):JL X true all QA (o::l) s:=by
 intro M ρ a w h1 h2;rw[q8] at hc;obtain⟨hp,eu⟩:=q9 hu hc.1 h2;simp only[AV.rv] at eu;obtain⟨fs,ks,k1,k2,k3⟩:=eu;obtain⟨hv,ea⟩:=q0l h2 ha hc.2;have hw:=q5t k1 (q5t ea k2);have hy:(apA fst (apA az cap)).bd s.nx:=q8f hp.1 (q8f hv hp.2);have hk:(execOp a.eval o).run X.P w=.ok (.enter f (fs++(args.toList.map a.eval++ks)).toArray) w:=by
  have hl:Array.map a.eval args=(List.map a.eval args.toList).toArray:=by rw[← yxi]
  obtain⟨dst,op,ty,pos,after,guard⟩:=o;simp only at hj;subst hj;simp only[execOp,resolve,k3,Deferred.ofValue,yye,yyf,yyb,invoke,hl];rw[← hh];simp
 obtain⟨sv1,sv2⟩:=q6b h2 Kp;refine z9 (k7 hg) (x9 (by rw[hj];rfl) hk (z0r (R:=fun e w''=>∃ v,e=.returned v∧wpListIn X.fn 0 X.P all.toArray (conc X QA) l (a.put o.dst v) w'') hf hb hn h1 hy hw sv1 sv2 h ?_) fun e w'' hr=>hr);intro M' ρ' s' l' L' r v w' q1 q2 q3 q4 q5 q6;have b1:=h1.leave q1 (H':=del s'.H l') q08 q3 ((d0,.lf .nils)::L');have b2:REG X M' ρ' ⟨L',del s'.H l',s'.nx⟩ a:=q3d h1 h2 q1 (q0a q1 q2);have b3:REG X M' ρ' ⟨(d0,.lf .nils)::L',del s'.H l',s'.nx⟩ a:=⟨b2.size,b2.defers,fun d v he=>by
  simp only[lk] at he;split at he
  ·rename_i e;injection he with he
   subst he;have e0:=z7s (h2.reg d0 _ h0).2;subst e;refine⟨(h2.reg d0 _ h0).1,?_⟩;rw[e0,v4];exact⟨rfl,rfl⟩
  ·exact b2.reg d v he⟩
 exact⟨v,rfl,q4 M' ρ' _ w' (z7 b1) (b3.putO hd.spec q5 q6)⟩
def JK.inlN{L:List (Nat×AV)}{H:List (Nat×HO)}{nx:Nat}{r:List Fr}{d:Nat}{ty:TypeId}{ps:String}{af:Array Edge}(Kp:List Nat)(d0:Nat){f:FuncId}{fn:Func}{c:Code}{fst cap az:AV}{cs1 cs2:List Prop}{fo:Operand}{args:Array Operand}{tys:Array TypeId}
  (h0:lk L d0=some (.lf .nils)) (hu:opd L fo=some (cs1,.fn f fst cap)) (ha:opds L args.toList=some (cs2,az)) (hc:allP (cs1++cs2)) (hf:X.P.funcs[f]?=some fn) (hb:fn.body=some c) (he:∀ az w,(callFunc f az).run X.P w=.ok (.enter f az) w)
  (hn:argN (apA fst (apA az cap))≤fn.ntmps) (hd:ltB d X.n=true)
  (h:∀ M0 up,JK (X.sub M0 fn.ntmps none up) [.code c] (inlQ X fn.results.toList fun v L H nx=>JK X (.ops true all l::r) QA ⟨(d,v)::(d0,.lf .nils)::L,H,nx⟩) ⟨argL (apA fst (apA az cap)) 0,(nx,.fr X.dp (svL L Kp))::H,nx+1⟩) :
  JK X (.ops true all (⟨some d,.call {callee:=.value fo,args:=args,argTypes:=tys},ty,ps,af,none⟩::l)::r) QA ⟨L,H,nx⟩:=
 JL.inlN (s:=⟨L,H,nx⟩) Kp d0 rfl rfl h0 hu ha hc hf hb he hn (v6 hd) h
section
variable {L:List (Nat×AV)}{H:List (Nat×HO)}{nx:Nat}{ty:TypeId}{ps:String}{af:Array Edge}{md:Bool}{c1:List Prop}
variable {kt:Ty}{t:TypeId}{om ok:Operand}{c2:List Prop}{x y:kt.den}{dd:Nat}{g:Bool}{gg:Nat×Bool}
end
end Ox
namespace Go.Proofs.YtjecebccchhmhaaGreatDoor
open Go Go.RowKit Ox Ox.St
attribute [local irreducible] JC JL JK JW
abbrev fr21(rd:List Int)(j:Nat):List (Nat×AV):=[(8,.lf (.osl 1)),(9,.lf (.optr 0 [])),(10,.val (.ptr (.slice (.int .i64))) (some rd)),(38,vL rd),(39,vI rd.length),(40,vI (j:Int))]
set_option maxHeartbeats 2000000 in
def take_in2{n:Int}{ps:List (List Int)}(hb:benE n ps=0)(R:Nat→List Int)(s:Int)(h0:s≠0)(hs:lnS s<8)(out:List (List Int))(rd:List Int)(j:Nat)
  (hu:∀ k,k<8→k=lnS s∨crs ps (lnS s) k=true→R k≠[])
  {E:World} {M0 M1:Mem} {nn:Nat} {up up1:Nat→Nat→Value} {K:AV→List (Nat×AV)→List (Nat×HO)→Nat→Prop}
  (hK:K (resV .anil) (fr21 rd j) [(0,.cell piT (.val piT (piE n ps (rowsD (takeR (crs ps) R s))))),(1,.sl 42 (.slice (.int .i64)) out)] 3) :
  JK (Ctx.sub ⟨Tryz.prog,tys,ets,mts,E,M0,nn,none,up,0⟩ M1 Tryz.f53.ntmps none up1) [.code (Tryz.f53.body.getD .skip)]
   (inlQ ⟨Tryz.prog,tys,ets,mts,E,M0,nn,none,up,0⟩ Tryz.f53.results.toList K) ⟨[(0,.lf (.optr 0 [])),(1,vI s)],[(2,.fr 0 (fr21 rd j)),(0,.cell piT (.val piT (piE n ps (rowsD R)))),(1,.sl 42 (.slice (.int .i64)) out)],3⟩:=by
 have c135:=fn118 s h0 hs;obtain⟨hD,hA⟩:=z4a ps (ben_lt hb);refine cdf (fn:=Tryz.f53) rfl ?_
 (repeat (first|refine zs rfl ?_|refine zg rfl rfl rfl ?_|refine zd ?_|refine w9 ?_|refine w7 ?_|refine zc rfl (c135) rfl rfl ?_|refine ze rfl (c135) rfl ?_|refine zk rfl rfl (fun _=>c135) rfl rfl ?_))
 refine JK.loop (fun k:Nat=>⟨[(0,.lf (.optr 0 [])),(4,vI (lnS s:Nat)),(8,vI (k:Int))],[(2,.fr 0 (fr21 rd j)),(0,.cell piT (.val piT (piE n ps (rowsD (takK (crs ps) R s k))))),(1,.sl 42 (.slice (.int .i64)) out)],3⟩) (fun k=>k≤8) (fun k=>8-k) 0 (yyw _) (by exact zJ) fun k hk=>?_;have hw:k=8→rowsD (takK (crs ps) R s k)=rowsD (takeR (crs ps) R s):=fun e=>by subst e;unfold rowsD;refine List.map_congr_left fun j hj=>?_;unfold takK;rw[if_pos (yyr.1 hj)]
 have he:k<8→(rowsD (takK (crs ps) R s k)).getD k (Ty.slice (.int .i64)).dflt=R k:=fun h=>by rw[q94 _ h,takK_at]
 have hg:=z6a (crs ps) R s k;have ha:k<8→rowsD (takK (crs ps) R s (k+1))=(rowsD (takK (crs ps) R s k)).set k (takeR (crs ps) R s k):=fun h=>z59 (crs ps) R s h;have hy:(k=lnS s∨crs ps (lnS s) k=true)→takeR (crs ps) R s k=(R k).drop 1:=fun h=>by unfold takeR;rw[if_pos h]
 have hz:¬ (k=lnS s∨crs ps (lnS s) k=true)→takeR (crs ps) R s k=R k:=fun h=>by unfold takeR;rw[if_neg h]
 have hr:=hu k;have hh:=fun q:k<8=>hA (lnS s) k hs q;unfold crAt at hh;have hp:=z6q (takK (crs ps) R s k);generalize lnS s=o at hs hy hz hr hh ⊢;have hB:k<8→(bif ((k:Int)==(o:Int)) then true else(((crM ps).getD (Int.toNat (o:Int)) rwT.dflt).getD (Int.toNat (k:Int)) (Ty.int .i64).dflt==1))=(decide (k=o)||crs ps o k):=fun h8=>by
  rw[Int.toNat_natCast,Int.toNat_natCast];by_cases e:k=o
  ·subst e;simp
  ·have e2:((k:Int)==(o:Int))=false:=by simp;omega
   rw[e2,cond_false];have hh:=hh h8;have hC:((crM ps).getD o rwT.dflt).getD k (Ty.int .i64).dflt=((crM ps).getD o rwT.dflt).getD k 0:=rfl;rw[hC,hh];cases crs ps o k<;>simp[e]
 refine zK0 ?_;refine z5 rfl (fun hc=>?_) (fun hc=>?_)
 ·replace hc:=zC hc;have hv:k<8:=by omega
  have he:=he hv;have ha:=ha hv;have hB:=hB hv;have hr:=hr hv;refine zK0 ?_;refine z5 rfl (fun hd=>?_) (fun hd=>?_)
  ·have q:k=o∨crs ps o k=true:=by have:=hB.symm.trans hd;simpa using this
   rw[hy q] at ha;have hl:=List.length_pos_iff.2 (hr q);generalize rowsD (takK (crs ps) R s k)=D at he ha hp ⊢;rw[← he] at ha hl;have hE:(1:Int)≤((D.getD (Int.toNat (k:Int)) (Ty.slice (.int .i64)).dflt).length:Int):=by rw[Int.toNat_natCast];omega
   refine q5a xk (Tryz.f53.body.getD .skip) rfl 13 rfl ?_
   (refine q7 0 xk rfl rfl (q7 1 xk rfl rfl (q7 2 xk rfl rfl (q7 3 xk rfl rfl (q7 4 xk rfl rfl (q7 5 xk rfl rfl (q7 6 xk rfl rfl (q7 9 xk rfl rfl (q7 10 xk rfl rfl (j3 7 xk rfl rfl (j3 8 xk rfl rfl (j3 11 xk rfl rfl (zU 12 xk rfl rfl ?_))))))))))));refine zK4 ?_;refine w4 ?_;refine q0b xk StF.nil ?_;((refine zK0 ?_;refine⟨k+1,?_,by omega,by omega⟩;rw[ha];exact zJ)))
  ·have q:¬ (k=o∨crs ps o k=true):=by have:=hB.symm.trans hd;simpa using this
   have hY:=hg (hz q);refine zK0 ?_;refine⟨k+1,?_,by omega,by omega⟩;rw[hY];exact zJ
 ·replace hc:=zC hc;rw[hw (by omega)];refine zK0 ?_;exact q23 (z30 rfl rfl rfl rfl hK)
abbrev LO21:List (Nat×AV):=[(8,.lf (.osl 1)),(9,.lf (.optr 0 [])),(10,.lf (.optr 2 []))]
def KR(c d:Code)(n:Int)(ps D:List (List Int))(out:List (List Int))(pre:List Int):List (Nat×HO):=
 [(4,.fr 0 [(52,.lf (.yld 3)),(8,.lf (.osl 1)),(9,.lf (.optr 0 [])),(10,.lf (.optr 2 []))]),(3,.loop .ready none #[29] c d 52 LO21),
  (0,.cell piT (.val piT (piE n ps D))),(1,.sl 42 (.slice (.int .i64)) out),(2,.cell (.slice (.int .i64)) (.lf (.osl 5))),(5,.sl 3 (.int .i64) pre)]
def z1z(h:frontsR R=[]):∀ m,Ox.Gl.roundsR X m R=[]
 |0=>rfl
 |m+1=>by simp[Ox.Gl.roundsR,h]
def q95(h:frontsR R=s::r)(m:Nat):Ox.Gl.roundsR X (m+1) R=(s::r)::Ox.Gl.roundsR X m ((s::r).foldl (takeR X) R):=by simp[Ox.Gl.roundsR,h]
variable{q:List Nat}
open Ox.Gl in
def PQ_ne(hi:∀ a,P a a=false)(hn:n≤8)(h:PQ P n q rv R)(hc:c<n)(ho:okc P n q c=true) :
  ∀ k,k=lnS (stk c)∨crsP P (lnS (stk c)) k=true→R k≠[]:=fun k hk=>by
 obtain⟨s0,sh,sm⟩:=h.pile.front (s:=stk c) (by rw[h.fronts hi hn];exact List.mem_map_of_mem (yy6.2 ⟨yyr.2 hc,ho⟩))
 obtain⟨r1,r2,he,_,hp2,hext⟩:=h.pile.take q9m s0 sh;rw[hext k];intro hc;have:=(List.append_eq_nil_iff.1 hc).1;unfold ext at this;rcases hk with hk|hk
 ·rw[if_pos hk] at this;cases this
 ·by_cases e:k=lnS (stk c)
  ·simp[e] at this
  ·simp[e,hk] at this
open Ox.Gl in
def okc_more{q cs:List Nat}(hn:cs.Nodup)(h:∀ c∈cs,c<n∧okc P n q c=true)(j:Nat)(hj:j<cs.length):okc P n (q++cs.take j) (cs.getD j 0)=true:=by
 have hg:cs.getD j 0=cs[j]:=by rw[yyp,yyv hj];rfl
 rw[hg];obtain⟨i1,i2⟩:=n8.1 (h _ (yy9 hj)).2;refine n8.2 ⟨fun e=>?_,fun a ha hp=>yxw _ (i2 a ha hp)⟩;rcases yy3.1 e with e|e
 ·exact i1 e
 ·obtain⟨i,hi,e⟩:=List.mem_take_iff_getElem.1 e;have h2:=(List.getElem_inj hn).1 e;omega
open Ox.Gl in
set_option maxRecDepth 8000 in
set_option maxHeartbeats 4000000 in
def fn22{n:Int}{ps:List (List Int)}(hX:crs ps=crsP P)(hi:∀ a,P a a=false)(hm:m≤8)(hp:o.Perm (List.range m))(hl:o.Pairwise fun x y=>P y x=false)
  (h:lstE n ps (o.map stk)=0):Ox.Fn Tryz.prog 22 (.acons (vBe n ps) (.acons (vL (o.map stk)) .anil)) (·=.tup (.acons (vLL (roundsR (crs ps) 60 (plR ps (o.map stk)))) (.acons (vI 0) .anil))):=by
 refine Ox.Fn.intro xok Tryz.func22 rfl Tryz.call22 (yyd rfl) (fun E M0 up=>?_);refine JK.start ?_;obtain⟨hb,h60,_⟩:=z8a h;have hol:=ok_lst h;have c27:=fn50 n ps ((o.map stk)::List.nil) hb (fun x hx=>by rw[yy0.1 hx];exact h);have hPQ:PQ P m [] (o.map stk).reverse (plR ps (o.map stk)):=by have:=PQ.start hp hl;unfold plR;rw[hX];exact this
 generalize o.map stk=l at c27 h60 hol hPQ h ⊢;refine zK10 ?_
 (refine JK.fzL [1] [1,15,17] rfl ?_)
 refine zK10 ?_;refine z5 rfl (fun h=>absurd h (by decide)) (fun _=>?_);refine zK0 ?_;refine JK.weakL (s':=⟨[(8,.lf .nils),(24,vTb n ps),(25,vL l)],[],0⟩) (by exact zJ) ?_;refine JK.inlN [] 8 rfl rfl rfl trivial Tryz.func51 rfl Tryz.call51 (yyd rfl) rfl fun M1 up1=>?_;refine cdt (fn:=Tryz.f51) rfl ?_;show JK _ _ _ ⟨[(0,vTb n ps),(1,vL l)],[(0,.fr 0 [])],1⟩;refine pile_in hb hol h60 ?_;refine zK0 ?_;refine JK.ghost 8 42 (.slice (.int .i64)) rfl ?_;generalize plR ps l=R0 at hPQ ⊢;refine JK.loop (σ:=(Nat→List Int)×List (List Int)) (fun z=>⟨[(8,.lf (.osl 1)),(9,.lf (.optr 0 []))],[(0,.cell piT (.val piT (piE n ps (rowsD z.1)))),(1,.sl 42 (.slice (.int .i64)) z.2)],2⟩)
  (fun z=>(∃ q rv,PQ P m q rv z.1∧q.Nodup∧(∀ c∈q,c<m)∧z.2.length≤q.length)∧z.2++roundsR (crs ps) (60-z.2.length) z.1=roundsR (crs ps) 60 R0) (fun z=>60-z.2.length) (R0,[])
  ⟨⟨[],_,hPQ,yxs,fun _ h=>absurd h yxe,yyo _⟩,by simp⟩ (by exact zJ) fun⟨R,out⟩ ⟨⟨q,rv,hq,hqn,hqm,hql⟩,hF⟩=>?_
 dsimp only at hq hql hF ⊢;have hqm8:q.length≤m:=by have:=Ox.Gl.nodup_sub hqn (a:=List.range m) fun c hc=>yyr.2 (hqm c hc);simpa using this
 generalize roundsR (crs ps) 60 R0=F0 at hF ⊢;refine zK0 ?_;refine z4s [8,9,10] rfl rfl trivial Tryz.func52 rfl Tryz.call52 (yyd rfl) rfl fun M2 up2=>?_
 (repeat (first|refine zs rfl ?_|refine znf ?_|refine w7 ?_))
 refine q9a rfl rfl rfl rfl ?_;refine zK0 ?_;refine j0t 2 3 (.int .i64) rfl ?_;refine z1i [8,9,10] rfl rfl rfl Tryz.func117 rfl Tryz.call117 (yyd rfl) trivial fun M3 up3 a1 b1 ha1 hb1=>?_;refine zK0 ?_;refine q1u (s':=⟨[(0,.lf (.yld 3)),(8,.val rsT (rowsD R)),(9,vI 0)],KR a1 b1 n ps (rowsD R) out [],100⟩) (by exact zJ) ?_;refine front_it (Mx:=M3) (nX:=52) (rdX:=none) R (fun pre=>KR a1 b1 n ps (rowsD R) out pre) ?_ ?_
 ·intro pre s post hps;have hpl:pre.length≤8:=by have h1:=congrArg List.length hps;have h2:=q33 R 8;rw[yyx] at h1;change (frontsN R 8).length=_ at h1;omega
  refine YO.intro 0 52 (ps:=#[29]) (assign:=a1) (body:=b1) (nO:=52) (LO:=LO21) (L0:=[(29,vI s),(8,.lf (.osl 1)),(9,.lf (.optr 0 [])),(10,.lf (.optr 2 []))]) rfl rfl rfl ⟨4,_,rfl,rfl⟩ ⟨4,_,rfl,rfl⟩ fun M4 M5 up5 bl hup=>JK.start (q5b ha1 ?_);refine zK0 ?_;refine q23 (z4k rfl rfl rfl rfl (JK.start (q5b hb1 ?_)));refine zK0 ?_;refine q23 (bodyQ.of rfl rfl rfl rfl rfl rfl ⟨rfl,?_⟩);show JW _ ⟨[],KR a1 b1 n ps (rowsD R) out (pre++[s]),100⟩ _;exact zJ
 ·intro L;refine q23 (rngQ.of (.inr rfl) rfl rfl rfl rfl rfl rfl rfl (z9d ?_));have hfe:=hq.fronts hi hm;obtain⟨cs,hcs⟩:∃ cs,(List.range m).filter (okc P m q)=cs:=⟨_,rfl⟩;have hcm:∀ c∈cs,c<m∧okc P m q c=true:=fun c hc=>by rw[← hcs,yy6,yyr] at hc;exact hc
  have hcn:cs.Nodup:=by rw[← hcs];exact List.nodup_range.filter _
  rw[hcs] at hfe;rw[hfe];cases cs with
  |nil=>refine zK0 ?_;refine z5 rfl (fun _=>?_) (fun h=>by cases h);refine zK0 ?_;refine zR rfl trivial ?_;rw[z1z hfe,yxb] at hF;rw[hF]
  |cons c0 cr=>
   have hcl:(c0::cr).length=(List.map stk (c0::cr)).length:=by simp
   have hne:List.map stk (c0::cr)≠[]:=by simp
   have hrl:(List.map stk (c0::cr)).length≤8:=by have:=q33 R 8;change (frontsR R).length≤8 at this;rwa[hfe] at this
   have hFn:(out++[List.map stk (c0::cr)])++roundsR (crs ps) (60-(out++[List.map stk (c0::cr)]).length) ((List.map stk (c0::cr)).foldl (takeR (crs ps)) R)=F0:=by rw[show 60-out.length=(60-(out++[List.map stk (c0::cr)]).length)+1 by simp;omega,q95 (s:=stk c0) (r:=List.map stk cr) hfe] at hF;rw[← hF];simp
   obtain⟨rv2,hq2⟩:=hq.takes hi (c0::cr) hcm hcn;have hget:∀ j,j<(List.map stk (c0::cr)).length→(List.map stk (c0::cr)).getD j 0=stk ((c0::cr).getD j 0):=fun j hj=>by rw[yyp,yyp,List.getElem?_map,yyv (by simpa using hj)];rfl
   generalize c0::cr=cs at hcm hcn hcl hget hq2 hFn hne hrl hfe ⊢;generalize hrd:List.map stk cs=rd at *;have hrd0:(rd.length:Int)≠0:=by have:=List.length_pos_iff.2 hne;omega
   refine zK0 ?_;refine z5 rfl (fun h=>absurd (eq_of_beq h) hrd0) (fun _=>?_)
   (refine q57 [5,2] [8,9,10] rfl ?_)
   refine zK0 ?_;refine JK.loop (fun j:Nat=>⟨[(8,.lf (.osl 1)),(9,.lf (.optr 0 [])),(10,.val (.ptr (.slice (.int .i64))) (some rd)),(38,vL rd),(39,vI rd.length),(40,vI (j:Int))],[(0,.cell piT (.val piT (piE n ps (rowsD ((rd.take j).foldl (takeR (crs ps)) R))))),(1,.sl 42 (.slice (.int .i64)) out)],2⟩) (fun j=>j≤rd.length) (fun j=>rd.length-j) 0 (yyw _) (by exact zJ) fun j hj=>?_;obtain⟨rvj,hqj⟩:=hq.takes hi (cs.take j) (fun c hc=>hcm c (List.mem_of_mem_take hc)) (hcn.sublist (List.take_sublist j cs));rw[List.map_take,hrd,← hX] at hqj;have hsucc:j<rd.length→(rd.take (j+1)).foldl (takeR (crs ps)) R=takeR (crs ps) ((rd.take j).foldl (takeR (crs ps)) R) (rd.getD j 0):=fun h=>by rw[yxg h,List.foldl_append,yyp,yyv h];rfl
   have hall:j=rd.length→(rd.take j).foldl (takeR (crs ps)) R=rd.foldl (takeR (crs ps)) R:=fun h=>by rw[h,yxr]
   generalize (rd.take j).foldl (takeR (crs ps)) R=Rj at hqj hsucc hall ⊢;refine zK0 ?_;refine z5 rfl (fun hc=>?_) (fun hc=>?_)
   ·replace hc:=zC hc;have hj8:j<rd.length:=by omega
    have hcj:j<cs.length:=by omega
    have hok:=okc_more hcn hcm j hcj;have hlt:cs.getD j 0<m:=by rw[yyp,yyv hcj];exact(hcm _ (yy9 hcj)).1
    have hne2:=PQ_ne hi hm hqj hlt hok;have hln:=u0 (cs.getD j 0);have hpos:stk (cs.getD j 0)≠0:=by unfold stk;omega
    rw[← hX,← hget j hj8] at hne2;rw[← hget j hj8] at hln hpos;have hsucc:=hsucc hj8;refine zK0 ?_;refine z4s [8,9,10,38,39,40] rfl rfl trivial Tryz.func53 rfl Tryz.call53 (yyd rfl) rfl fun M5 up5=>?_;refine cdt (fn:=Tryz.f53) rfl ?_;rw[Int.toNat_natCast];refine q1u (s':=⟨[(0,.lf (.optr 0 [])),(1,vI (rd.getD j 0))],[(2,.fr 0 (fr21 rd j)),(0,.cell piT (.val piT (piE n ps (rowsD Rj)))),(1,.sl 42 (.slice (.int .i64)) out)],3⟩) (by exact zJ) ?_;refine take_in2 hb Rj (rd.getD j 0) hpos (by rw[hln];omega) out rd j (fun k _ hk=>hne2 k hk) ?_;refine zK0 ?_;refine⟨j+1,?_,by omega,by omega⟩;rw[hsucc];exact zJ
   ·replace hc:=zC hc;rw[hall (by omega)];refine zK0 ?_;refine⟨(rd.foldl (takeR (crs ps)) R,out++[rd]),by exact zJ,⟨⟨q++cs,rv2,by rw[hX];exact hq2,?_,fun c hc=>?_,?_⟩,hFn⟩,by simp;omega⟩
    ·refine List.nodup_append.2 ⟨hqn,hcn,fun a ha b hb e=>?_⟩;exact(n8.1 (hcm b hb).2).1 (e▸ha)
    ·rcases yy3.1 hc with h|h
     ·exact hqm c h
     ·exact(hcm c h).1
    ·have:=List.length_pos_iff.2 hne;simp;omega
end Go.Proofs.YtjecebccchhmhaaGreatDoor
namespace Ox
open Go Go.RowKit
variable {X:Ctx}{s:S}{M:Mem}{ρ:Env}{a:Act}{w:World}{QA:Exit→S→Prop}{all l:List Oper}
namespace Rn
noncomputable section
variable {P:Program}{g:Nat}{l':Lit}
end
end Rn
variable {md:Bool}
variable {L L':List (Nat×AV)}{H H':List (Nat×HO)}{nx nx':Nat}
variable{P:Program}
def faR_off{i o:Nat}(h:faR P t (.p 0 0) i=some (.p 0 o))(lb off:Nat):faR P t (.p lb off) i=some (.p lb (off+o)):=by
 unfold faR at h ⊢;dsimp only at h ⊢;split at h
 ·split at h
  ·split at h
   ·injection h with h
    injection h with h1 h2
    rw[yxq] at h2;rw[h2]
   ·cases h
  ·cases h
 ·cases h
variable{A B:Ty}
def q64{y:(Ty.cons A B).den}{tid:TypeId}{v:Value}(hf:faR P tid (.p 0 0) 0=some (.p 0 0))(h:(AV.val (.ptr (.cons A B)) (some y)).rv M ρ v) :
  ∃ z,(AV.val (.ptr A) (some y.1)).rv M ρ z∧∀ w,(Instr.fieldAt tid v 0).run P w=.ok z w:=by
 obtain⟨b,off,c,ty,fz,rfl,hM,hr⟩:=q2q.1 h;have e:=faR_off hf 0 off;have hk:=(z36 (ρ:=⟨fun _=>b,fun _=>.nil,fun _=>Go.undef⟩) (n:=1) e (yxd 0)).2;refine⟨.pointer (some ⟨b,off,none⟩),q2q.2 ⟨b,off,c,ty,fz,rfl,hM,?_⟩,fun w=>hk w⟩;simp only[Rep] at hr;obtain⟨c1,c2,e1,e2,_⟩:=hr;have hl:=Rep.length e2;have:(c.toList.drop off).take A.size=c1:=by have:=congrArg (List.take A.size) e1;rw[List.take_take,← hl,List.take_left] at this;rw[← this,hl];congr 1;exact(yxp (Nat.le_add_right _ _)).symm
 rw[this];exact e2
def JL.fldP{y:(Ty.cons A B).den}{ps:String}
  (h:opd s.L x=some (cs,.val (.ptr (.cons A B)) (some y))) (hf:faR X.P tid (.p 0 0) 0=some (.p 0 0)) (hd:ltB d X.n=true) (hc:allP cs)
  (k:JL X md all QA l (putS (some d) (.val (.ptr A) (some y.1)) s)):JL X md all QA (⟨some d,.fieldAddr tid x 0,ty,ps,af,none⟩::l) s:=by
 have ha:=dstOk.spec (d:=some d) (v6 hd);cases md
 ·intro M ρ a w0 h1 h2;obtain⟨z,e2,e3⟩:=q64 (P:=X.P) hf (q9 h hc h2).2;simp only[wpQuiet,Region.wanted,if_true];exact⟨z,fun w hw=>by unfold Oper.quietAt;simp only[execOp,yye,e3,yyb,yyf];exact⟨rfl,rfl⟩,k M ρ _ w0 (z7 h1) (h2.putO ha trivial e2)⟩
 ·intro M ρ a w h1 h2;obtain⟨z,e2,e3⟩:=q64 (P:=X.P) hf (q9 h hc h2).2;exact z9 (k7 rfl) (w8 rfl (by simp only[execOp,yye,e3,yyb,yyf]) (k M ρ _ w (z7 h1) (h2.putO ha trivial e2)))
def SAT.part(h1:SAT X M ρ ⟨L,H,nx⟩ w){o0:HO}(hl:lk H m=some o0)(ha:o0.at ρ m=some (ρ.blk m))(hge:X.E.heap.size≤ρ.blk m)(hH:subH H H')(hm:lk H' m=none)(bH:bdH nx' H') :
  ∃ M',SAT X M' ρ ⟨L',H',nx'⟩ w∧M.le M'∧(∀ b o,M b=some o→M' b=some o)∧M' (ρ.blk m)=w.heap[ρ.blk m]?:=by
 have hn:=h1.notM m o0 _ hl ha;have hM:∀ b o,M b=some o→(if b=ρ.blk m then w.heap[b]? else M b)=some o:=fun b o hb=>by
  by_cases e:b=ρ.blk m
  ·rw[e,hn] at hb;cases hb
  ·rw[if_neg e];exact hb
 refine⟨fun b=>if b=ρ.blk m then w.heap[b]? else M b,⟨h1.below,fun b o hb=>hM b o (h1.msub b o hb),fun b hb=>?_,fun b o hb=>?_,fun l o k=>?_,fun l l' o o' b k1 k2=>h1.apart l l' o o' b (hH _ _ k1) (hH _ _ k2),fun l o b k1 k2=>?_⟩,fun b c ty fz hb=>hM b _ hb,hM,if_pos rfl⟩
 ·show(if b=ρ.blk m then w.heap[b]? else M b)=X.M0 b;rw[if_neg (by omega)];exact h1.mnew b hb
 ·have hb:(if b=ρ.blk m then w.heap[b]? else M b)=some o:=hb;split at hb
  ·exact hb
  ·exact h1.mem b o hb
 ·obtain⟨e1,e2⟩:=q0h bH l o (v7 k);obtain⟨q1,q2,q3⟩:=h1.own l o (hH l o k);exact⟨e1,e2,q0v (fun b c ty fz hb=>hM b _ hb) (Env.upTo.refl ρ nx) q1 q2 q3⟩
 ·show(if b=ρ.blk m then w.heap[b]? else M b)=none;by_cases e:b=ρ.blk m
  ·subst e;have:=h1.apart l m o o0 _ (hH _ _ k1) hl k2 ha;subst this;rw[hm] at k1;cases k1
  ·rw[if_neg e];exact h1.notM l o b (hH _ _ k1) k2
variable{q:AV}
def SAT.partG(h1:SAT X M ρ ⟨L,H,nx⟩ w)(h2:REG X M ρ ⟨L,H,nx⟩ a){t A:Ty}{x:A.den}(hl:lk H m=some (.cell t (.mix (.val A x) q)))(hd:lk L d=some (.lf (.optr m [])))
  (hL:subL L L') (hH:subH H H') (hm:lk H' m=none) (bL:bdL nx' L') (bH:bdH nx' H') :
  ∃ M',SAT X M' ρ ⟨(d,.val (.ptr (.cons A .nil)) (some (x,())))::L',H',nx'⟩ w∧REG X M' ρ ⟨(d,.val (.ptr (.cons A .nil)) (some (x,())))::L',H',nx'⟩ a:=by
 obtain⟨_,_,_,_,hge,c,ty,hh,hr⟩:=h1.own m _ hl;obtain⟨M',e1,e2,e3,e4⟩:=h1.part (L':=(d,.val (.ptr (.cons A .nil)) (some (x,())))::L') hl rfl hge hH hm bH;refine⟨M',e1,h2.size,?_,fun d' v ha=>?_⟩
 ·obtain⟨Ds,k1,k2,k3,k4⟩:=h2.defers;exact⟨Ds,k1,k2,fun D hD=>⟨(k3 D hD).1,e3 _ _ (k3 D hD).2⟩,k4⟩
 ·simp only[lk] at ha;by_cases e':d=d'
  ·subst e';rw[if_pos rfl] at ha;injection ha with ha;subst ha
   refine⟨trivial,?_⟩;have hv:=(h2.reg d _ hd).2;simp only[AV.rv,Leaf.at,yya] at hv;have h0:(ρ.ty m).off []=0:=by cases ρ.ty m<;>rfl
   rw[← hv.1,h0];obtain⟨c1,c2,r1,_,r3⟩:=hr;have hx:Rep M' A x c1:=Rep.mono e2 r1;have hs:=Rep.length hx;refine q2q.2 ⟨_,0,c,ty,(0,0),rfl,e4.trans hh,?_⟩;rw[List.drop_zero,r3];have:(Ty.cons A .nil).size=A.size:=by simp[Ty.size]
   rw[this,← hs,List.take_left];simp only[Rep];exact⟨c1,[],by simp,hx,rfl⟩
  ·rw[if_neg e'] at ha;have q:=h2.reg d' v (q2p hL d' v ha);exact⟨q00 bL d' v (v7 ha),j6 e2 (Env.upTo.refl ρ nx) q.1 q.2⟩
def JL.part{t A:Ty}{x:A.den}(hl:lk H m=some (.cell t (.mix (.val A x) q)))(hd:lk L d=some (.lf (.optr m [])))(hL:subL L L')(hH:subH H H')(hm:lk H' m=none)(bL:bdL nx' L')(bH:bdH nx' H')
  (k:JL X md all QA l ⟨(d,.val (.ptr (.cons A .nil)) (some (x,())))::L',H',nx'⟩):JL X md all QA l ⟨L,H,nx⟩:=by
 cases md
 ·intro M ρ a w h1 h2;obtain⟨M',e1,e2⟩:=h1.partG h2 hl hd hL hH hm bL bH;exact k _ ρ a w e1 e2
 ·intro M ρ a w h1 h2;obtain⟨M',e1,e2⟩:=h1.partG h2 hl hd hL hH hm bL bH;exact k _ ρ a w e1 e2
def JC.part{c:Code}{t A:Ty}{x:A.den}(hl:lk H m=some (.cell t (.mix (.val A x) q)))(hd:lk L d=some (.lf (.optr m [])))(hL:subL L L')(hH:subH H H')(hm:lk H' m=none)(bL:bdL nx' L')(bH:bdH nx' H')
  (k:JC X c QA ⟨(d,.val (.ptr (.cons A .nil)) (some (x,())))::L',H',nx'⟩):JC X c QA ⟨L,H,nx⟩:=by
 intro M ρ a w h1 h2;obtain⟨M',e1,e2⟩:=h1.partG h2 hl hd hL hH hm bL bH;exact k _ ρ a w e1 e2
variable {r:List Fr}
def JK.part{c:Code}(m d:Nat){t A:Ty}{x:A.den}{q:AV}(hl:lk H m=some (.cell t (.mix (.val A x) q)))(hd:lk L d=some (.lf (.optr m [])))(hL:subL L L')(hH:subH H H')(hm:lk H' m=none)(bL:bdL nx' L')(bH:bdH nx' H')
  (k:JK X (.code c::r) QA ⟨(d,.val (.ptr (.cons A .nil)) (some (x,())))::L',H',nx'⟩):JK X (.code c::r) QA ⟨L,H,nx⟩:=JC.part hl hd hL hH hm bL bH k
def q5x{y:(Ty.cons A B).den}{ps:String}
  (hf:faR X.P tid (.p 0 0) 0=some (.p 0 0)) (h:opd L x=some (cs,.val (.ptr (.cons A B)) (some y))) (hd:ltB d X.n=true) (hc:allP cs)
  (k:JK X (.ops md all l::r) QA ⟨(d,.val (.ptr A) (some y.1))::L,H,nx⟩):JK X (.ops md all (⟨some d,.fieldAddr tid x 0,ty,ps,af,none⟩::l)::r) QA ⟨L,H,nx⟩:=JL.fldP (s:=⟨L,H,nx⟩) h hf hd hc k
def JL.fldPG{y:(Ty.cons A B).den}{ps:String}(hg:gOf all s.L (some gg)=some g)
  (h:opd s.L x=some (cs,.val (.ptr (.cons A B)) (some y))) (hf:faR X.P tid (.p 0 0) 0=some (.p 0 0)) (hd:ltB d X.n=true) (hc:g=true→allP cs)
  (k:JL X md all QA l (putS (some d) (.gd g (.val (.ptr A) (some y.1))) s)):JL X md all QA (⟨some d,.fieldAddr tid x 0,ty,ps,af,some gg⟩::l) s:=by
 have ha:=dstOk.spec (d:=some d) (v6 hd);cases md
 ·intro M ρ a w0 h1 h2;have hw:=p7 (o:=⟨some d,.fieldAddr tid x 0,ty,ps,af,some gg⟩) hg h2;simp only[wpQuiet,hw];cases g with
  |true=>obtain⟨z,e2,e3⟩:=q64 (P:=X.P) hf (q9 h (hc rfl) h2).2;simp only[if_true];exact⟨z,fun w hw=>by unfold Oper.quietAt;simp only[execOp,yye,e3,yyb,yyf];exact⟨rfl,rfl⟩,k M ρ _ w0 (z7 h1) (h2.putO ha (by exact fun _=>trivial) (by simp only[AV.rv];exact⟨fun _=>e2,fun h=>(by cases h)⟩))⟩
  |false=>simp only[yyt,if_false];exact k M ρ _ w0 (z7 h1) (h2.putO ha (by exact fun h=>(by cases h)) (by simp[AV.rv]))
 ·intro M ρ a w h1 h2;have hw:=p7 (o:=⟨some d,.fieldAddr tid x 0,ty,ps,af,some gg⟩) hg h2;cases g with
  |true=>
   obtain⟨z,e2,e3⟩:=q64 (P:=X.P) hf (q9 h (hc rfl) h2).2;have e4:(execOp a.eval (⟨some d,.fieldAddr tid x 0,ty,ps,af,some gg⟩:Oper)).run X.P w=.ok (.value z) w:=by simp only[execOp,yye,e3,yyb,yyf]
   refine z9 hw (w8 rfl e4 ?_);exact k M ρ _ w (z7 h1) (h2.putO ha (by exact fun _=>trivial) (by simp only[AV.rv];exact⟨fun _=>e2,fun h=>(by cases h)⟩))
  |false=>refine q0o hw ?_;exact k M ρ _ w (z7 h1) (h2.putO ha (by exact fun h=>(by cases h)) (by simp[AV.rv]))
def q49{y:(Ty.cons A B).den}{ps:String}(hf:faR X.P tid (.p 0 0) 0=some (.p 0 0))(hg:gOf all L (some gg)=some g)
  (h:opd L x=some (cs,.val (.ptr (.cons A B)) (some y))) (hd:ltB d X.n=true) (hc:g=true→allP cs)
  (k:JK X (.ops md all l::r) QA ⟨(d,.gd g (.val (.ptr A) (some y.1)))::L,H,nx⟩):JK X (.ops md all (⟨some d,.fieldAddr tid x 0,ty,ps,af,some gg⟩::l)::r) QA ⟨L,H,nx⟩:=JL.fldPG (s:=⟨L,H,nx⟩) hg h hf hd hc k
def faR_of(h:(match faR P t (.p 0 0) 0 with|some v=>v.eqb (.p 0 0)|none=>false)=true):faR P t (.p 0 0) 0=some (.p 0 0):=by
 split at h
 ·rename_i v hv;rw[hv,u7 h]
 ·cases h
end Ox
namespace Ox.Gl
variable {bt:Nat→Nat}{n:Nat}
def mkB(bt:Nat→Nat):List Nat→Nat
 |[]=>0
 |a::l=>bt a ||| mkB bt l
def z7y:∀ (l k:List Nat),mkB bt (l++k)=mkB bt l ||| mkB bt k
 |[],k=>by simp[mkB]
 |a::l,k=>by
  show bt a ||| mkB bt (l++k)=_
  rw[z7y l k,← Nat.or_assoc];rfl
def mkB_snoc(l:List Nat)(a:Nat):mkB bt (l++[a])=mkB bt l ||| bt a:=by rw[z7y];simp[mkB]
def z7z{b:Nat}:∀ {l:List Nat},(∀ a∈l,bt a &&& b=0)→mkB bt l &&& b=0
 |[],_=>by simp[mkB]
 |a::l,h=>by show(bt a ||| mkB bt l) &&& b=0;rw[Nat.and_or_distrib_right,h a yyh,z7z fun x hx=>h x (yyi _ hx)];rfl
def mkB_lt{k:Nat}:∀ {l:List Nat},(∀ a∈l,bt a<2 ^ k)→mkB bt l<2 ^ k
 |[],_=>Nat.two_pow_pos k
 |a::l,h=>Nat.or_lt_two_pow (h a yyh) (mkB_lt fun x hx=>h x (yyi _ hx))
def z5o{q:List Nat}(h1:∀ c,c<n→c∈q)(h2:∀ c∈q,c<n):bitsQ q=2 ^ n-1:=by refine Nat.eq_of_testBit_eq fun c=>?_;rw[q7d,Nat.testBit_two_pow_sub_one];exact decide_eq_decide.2 ⟨h2 c,h1 c⟩
end Ox.Gl
namespace Go.Proofs.YtjecebccchhmhaaGreatDoor.Cb
open Go Go.RowKit Ox Ox.Gl
attribute [local irreducible] JC JL JK JW
abbrev vI(n:Int):AV:=.val (.int .i64) n
abbrev vB(b:Bool):AV:=.val .bool b
abbrev vL(xs:List Int):AV:=.val (.slice (.int .i64)) xs
abbrev pI(n:Int):AV:=.val (.ptr (.int .i64)) (some n)
abbrev vS64(n:Nat):AV:=.val (.int .u64) (n:Int)
abbrev twT:Ty:=.cons (.int .i64) (.cons (.int .i64) .nil)
abbrev TwD:=Int×Int×Unit
abbrev shT:Ty:=.cons (.slice twT) (.cons (.slice twT) .nil)
abbrev mkS(cs ms:List TwD):shT.den:=(cs,ms,())
abbrev vBd(cs ms:List TwD):AV:=.val (.ptr (.cons shT .nil)) (some (mkS cs ms,()))
abbrev vTw(z:TwD):AV:=.val twT z
def brd:faR Tryz.prog 123 (.p 0 0) 0=some (.p 0 0):=faR_of (by decide +kernel)
def j4(xs:List α)(h:i<xs.length)(d:α):xs.getD i d=xs[i]:=by simp[yyp,yyv h]
def idxB{α:Type}(p:α→Bool):List α→Nat→Int
 |[],_=>-1
 |x::r,i=>if p x then(i:Int) else idxB p r (i+1)
def inP(at_:Int)(m:TwD):Bool:=bif decide (m.1≤at_) then decide (at_≤m.2.1) else false
def inM(ms:List TwD)(at_:Int):Int:=idxB (inP at_) ms 0
def idxB_bd{α:Type}{p:α→Bool}:∀ {xs:List α} {i:Nat},idxB p xs i=-1∨((i:Int)≤idxB p xs i∧idxB p xs i<(i:Int)+xs.length)
 |[],i=>.inl rfl
 |x::r,i=>by
  simp only[idxB];split
  ·refine .inr ⟨Int.le_refl _,?_⟩;simp only[List.length_cons];omega
  ·rcases idxB_bd (xs:=r) (i:=i+1) with h|⟨h1,h2⟩
   ·exact .inl h
   ·refine .inr ⟨by omega,?_⟩;simp only[List.length_cons];omega
def fn122(m:TwD)(at_:Int):Ox.Fn Tryz.prog 122 (.acons (vTw m) (.acons (pI at_) .anil)) (·=vB (inP at_ m)):=by refine Ox.Fn.intro xok Tryz.func122 rfl Tryz.call122 (yyd rfl) (fun E M0 up=>?_);refine JK.start ?_;refine zK0 ?_;refine zR rfl trivial ?_;rfl
def fn121{t1:Ty}{x1:t1.den}(xs:List TwD)(p:TwD→Bool)(h:∀ x∈xs,Ox.Fn Tryz.prog f (.acons (vTw x) (.acons (.val t1 x1) .anil)) (·=vB (p x))) :
  Ox.Fn Tryz.prog 121 (.acons (.val (.slice twT) xs) (.acons (.fn f .anil (.acons (.val t1 x1) .anil)) .anil)) (·=vI (idxB p xs 0)):=by
 refine Ox.Fn.intro xok Tryz.func121 rfl Tryz.call121 (yyd rfl) (fun E M0 up=>?_);refine JK.start ?_;refine JK.lenOf 0 rfl fun hb=>?_;replace hb:xs.length≤9223372036854775807:=hb.1;refine zK0 ?_;refine JK.loop (fun i:Nat=>⟨[(1,.fn f .anil (.acons (.val t1 x1) .anil)),(7,.val (.slice twT) xs),(8,vI xs.length),(9,vI (i:Int))],[],0⟩) (fun i=>i≤xs.length∧idxB p xs 0=idxB p (xs.drop i) i) (fun i=>xs.length-i) 0 (by simp) (by exact zJ) fun i ⟨hi,hn⟩=>?_;refine zK0 ?_;refine z5 rfl (fun hc=>?_) (fun hc=>?_)
 ·replace hc:=zC hc;have ha:i<xs.length:=by omega
  have hx:=h (xs.getD i (0,0,())) (by rw[j4 xs ha];exact yy9 ha);refine zK6 ?_;refine z5 rfl (fun hd=>?_) (fun hd=>?_)
  ·refine zK0 ?_;refine zR rfl trivial ?_;rw[j4 xs ha] at hd;rw[hn,yy4 ha,idxB,if_pos hd]
  ·refine zK0 ?_;rw[j4 xs ha] at hd;refine⟨i+1,by exact zJ,⟨by omega,?_⟩,by omega⟩;rw[hn,yy4 ha,idxB,if_neg (by rw[hd];simp)]
 ·replace hc:=zC hc;refine zK0 ?_;refine zR rfl trivial ?_;obtain rfl:i=xs.length:=by omega
  rw[hn,List.drop_length];rfl
def fn56(cs ms:List TwD)(at_:Int):Ox.Fn Tryz.prog 56 (.acons (vBd cs ms) (.acons (vI at_) .anil)) (·=vI (inM ms at_)):=by
 refine Ox.Fn.intro xok Tryz.func56 rfl Tryz.call56 (yyd rfl) (fun E M0 up=>?_);refine JK.start ?_;have c380:=fn121 (f:=122) ms (inP at_) (fun x _=>fn122 x at_);refine zK0 ?_;refine q5x brd rfl rfl trivial ?_
 (repeat (first|refine zs rfl ?_|refine zg rfl rfl rfl ?_|refine zd ?_|refine w9 ?_|refine w7 ?_|refine zc rfl (c380) rfl rfl ?_|refine ze rfl (c380) rfl ?_|refine zk rfl rfl (fun _=>c380) rfl rfl ?_))
 refine zR rfl trivial ?_;rfl
def fn25(cs ms:List TwD)(n:Int):Ox.Fn Tryz.prog 25 (.acons (vBd cs ms) (.acons (vI n) .anil)) (·=vB (decide (0≤n∧n<cs.length))):=by refine Ox.Fn.intro xok Tryz.func25 rfl Tryz.call25 (yyd rfl) (fun E M0 up=>?_);refine JK.start ?_;refine zK0 ?_;refine q49 brd rfl rfl rfl (fun h=>h) ?_;refine zK0 ?_;refine zR rfl trivial ?_;refine congrArg vB ?_;by_cases h:0≤n<;>simp[h]
end Go.Proofs.YtjecebccchhmhaaGreatDoor.Cb
namespace Ox
open Go Go.RowKit
variable {X:Ctx}{s:S}{M:Mem}{ρ:Env}{a a':Act}{w w':World}{QA:Exit→S→Prop}{K:S→Prop}{ops:List Oper}{ls fl fr:List Nat}{fuel:Nat}
variable{L:List (Nat×AV)}{H:List (Nat×HO)}
def j0y(i:Nat){op:Op}{ps:String}{v:AV}{nx:Nat}
  (hf:fsB ops ls fl i=true) (ho:ops[i]?=some ⟨some d,op,ty,ps,af,none⟩)
  (hS:∀ M ρ a w,SAT X M ρ ⟨L,H,nx⟩ w→REG X M ρ ⟨L,H,nx⟩ a→v.bd nx∧∃ z,v.rv M ρ z∧∀ w',(execOp a.eval ⟨some d,op,ty,ps,af,none⟩).run X.P w'=.ok (.value z) w')
  (hd:ltB d X.n=true) (k:JF X ops K fl fuel (i::ls) ⟨(d,v)::L,H,nx⟩):JF X ops K fl (fuel+1) ls ⟨L,H,nx⟩:=by
 intro M ρ a a' w l fr ha hD hl hp h1 h2;simp only[fsB,yyc,yys] at hf;obtain⟨⟨⟨⟨hE,hy⟩,hf⟩,hA⟩,hs,hu⟩:=hf;simp only[frB,ho,yyc,yys] at hf;obtain⟨⟨_,h4⟩,e4⟩:=hf;have hB:i<ops.length:=(yy7.1 ho).1;have hF:i∉fr:=fun hc=>by simp at hy;exact hy (ha i hc)
 have hC:=y5.1 h4;have hh:∀ g∈fr,∀ q,ops[g]?=some q→halfB ops q (⟨some d,op,ty,ps,af,none⟩:Oper)=true:=by intro g hg q hq;simp only[apB,ho] at hA;have:=yyz.1 hA g (ha g hg);rw[hq] at this;simp only[yyu] at this;refine this.resolve_left fun hw=>?_;obtain⟨e,he,hb,rfl⟩:=n4.1 hw;have:=(hC e (by simpa using he) hb).2;rw[x6] at this;simp[ha _ hg] at this
 obtain⟨hb,z,hz,hv⟩:=hS M ρ _ w h1 h2;have hk:∀ (j:Nat) (o:Oper) cs b,ops.toArray[j]?=some o→o.op≠.select cs b:=Region.noSelect_spec hs;obtain⟨hG,hM⟩:=PutsR.exec (o:=⟨some d,op,ty,ps,af,none⟩) (hk i _ · · (by simpa using ho)) hp fun g hg q hq=>(y6 (hh g hg q hq)).1;rw[show fuel+1+fr.length=(fuel+fr.length)+1 by omega];refine o8 (fun _ _ _ h=>q38 h) (i:=i) (oi:=⟨some d,op,ty,ps,af,none⟩) (v:=z) (by simpa using ho) hk (n5 hu) (fuel+fr.length) l a w ?_ ?_ (.inl ⟨rfl,by rw[← hG];exact hv⟩) ?_
 ·intro j oj hj hN hr hH;have hJ:j<ops.length:=by have:=(yyj.1 hj).1;simpa using this
  refine q0n e4 j oj (by simpa using hj) (by omega) ?_ hH;rw[hl.getT hJ] at hr;rw[yxq,x6];cases hc:ls.contains j with
  |false=>rfl
  |true=>rw[hc] at hr;simp at hr;simp[ha _ hr]
 ·refine mem_ready.2 ⟨by rw[hl.getT hB,hE];rfl,_,by simpa using ho,fun e he hb=>?_⟩;obtain⟨e1,e2⟩:=hC e (by simpa using he) hb;rw[x6,yyc] at e2;rw[hl.getT e1,e2.1];have:e.on∉fr:=fun hc=>by have:=e2.2;simp[ha _ hc] at this
  simp[this]
 ·exact k M ρ _ (a'.put (some d) z) w _ fr ha hD (hl.setNew hB hF) (PutsR.put (d:=some d) hp fun f hf o hK e he hL=>(y6 (hh f hf o hK)).2 e he hL)
   (z7 (d:=some d) (v:=v) h1) (h2.putO (d:=some d) (dstOk.spec (v6 hd)) hb hz)
def JF.FldP(i:Nat){A B:Ty}{y:(Ty.cons A B).den}{ps:String}{nx:Nat}
  (hr:faR X.P tid (.p 0 0) 0=some (.p 0 0)) (ho:ops[i]?=some ⟨some d,.fieldAddr tid x 0,ty,ps,af,none⟩) (h:opd L x=some (cs,.val (.ptr (.cons A B)) (some y)))
  (k:JF X ops K fl fuel (i::ls) ⟨(d,.val (.ptr A) (some y.1))::L,H,nx⟩) (hf:fsB ops ls fl i=true:=by decide +kernel) (hd:ltB d X.n=true:=by rfl) (hc:allP cs:=by trivial):JF X ops K fl (fuel+1) ls ⟨L,H,nx⟩:=
 j0y i hf ho (fun M ρ a w h1 h2=>by obtain⟨z,e2,e3⟩:=q64 (P:=X.P) hr (q9 h hc h2).2;exact⟨trivial,z,e2,fun w'=>by simp only[execOp,yye,e3,yyb,yyf]⟩) hd k
end Ox
namespace Go.Proofs.YtjecebccchhmhaaGreatDoor.Cb
open Go Go.RowKit Ox Ox.Gl
attribute [local irreducible] JC JL JK JW
structure okSh(cs ms:List TwD):Prop where
 c1:1≤cs.length
 c8:cs.length≤8
 m1:1≤ms.length
 m12:ms.length≤12
 co:∀ c∈cs,(1≤c.1∧c.1≤50)∧2≤c.2.1∧c.2.1≤20
 mo:∀ m∈ms,0≤m.1∧m.1≤m.2.1∧m.2.1≤500
variable{ms cs:List TwD}
def z8r(ha:ms.length≤12)(at_:Int):inM ms at_=-1∨(0≤inM ms at_∧inM ms at_<12):=by
 rcases idxB_bd (p:=inP at_) (xs:=ms) (i:=0) with h|⟨h1,h2⟩
 ·exact .inl h
 ·refine .inr ⟨by simpa[inM] using h1,?_⟩;unfold inM;omega
def z8s{at_:Int}:∀ {ms:List TwD} {i:Nat},(∀ m∈ms,0≤m.1∧m.1≤m.2.1∧m.2.1≤500)→0≤idxB (inP at_) ms i→0≤at_∧at_≤500
 |[],i,_,h=>by simp[idxB] at h
 |m::r,i,hm,h=>by
  simp only[idxB] at h;by_cases e:inP at_ m=true
  ·have:=hm m yyh;unfold inP at e;by_cases e1:m.1≤at_
   ·by_cases e2:at_≤m.2.1
    ·omega
    ·simp[e1,e2] at e
   ·simp[e1] at e
  ·rw[if_neg e] at h;exact z8s (fun x hx=>hm x (yyi _ hx)) h
def tth(ms:List TwD)(at_ sp:Int):Nat→Option Nat
 |0=>some 0
 |t+1=>match tth ms at_ sp t with
  |none=>none
  |some o=>if inM ms (at_+(t:Int)*sp)<0 then none else some (o ||| 2 ^ (inM ms (at_+(t:Int)*sp)).toNat)
def q6a{ms:List TwD}{at_ sp:Int}{t:Nat}(h:tth ms at_ sp t=none):∀ k,tth ms at_ sp (t+k)=none
 |0=>h
 |k+1=>by show(match tth ms at_ sp (t+k) with|none=>none|some o=>_)=none;rw[q6a h k]
def z22{ms:List TwD}(ha:ms.length≤12){at_ sp:Int}:∀ {t o:Nat},tth ms at_ sp t=some o→o<4096
 |0,o,h=>by injection h with h;omega
 |t+1,o,h=>by
  have h:(match tth ms at_ sp t with|none=>none|some o=>if inM ms (at_+(t:Int)*sp)<0 then none else some (o ||| 2 ^ (inM ms (at_+(t:Int)*sp)).toNat))=some o:=h;split at h
  ·cases h
  ·rename_i o' hb;split at h
   ·cases h
   ·rename_i hn;injection h with h
    subst h;have:=z8r ha (at_+(t:Int)*sp);exact Nat.or_lt_two_pow (n:=12) (z22 ha hb) (Nat.pow_lt_pow_right (by decide) (by omega))
def mkM(cs ms:List TwD)(r:TwD):Nat:=if inM ms r.2.1<0 then 0 else(tth ms r.2.1 (cs.getD r.1.toNat (0,0,())).1 (cs.getD r.1.toNat (0,0,())).2.1.toNat).getD 0
def one_pow(n:Nat):((1:Int)*2 ^ n).toNat=2 ^ n:=by
 rw[Int.one_mul];have:((2:Int) ^ n)=((2 ^ n:Nat):Int):=by push_cast;rfl
 rw[this,Int.toNat_natCast]
set_option maxHeartbeats 2000000 in
set_option maxRecDepth 20000 in
def fn26(hs:okSh cs ms)(r:TwD)(hr:0≤r.1∧r.1<cs.length):Ox.Fn Tryz.prog 26 (.acons (vBd cs ms) (.acons (vTw r) .anil)) (·=vS64 (mkM cs ms r)):=by
 refine Ox.Fn.intro xok Tryz.func26 rfl Tryz.call26 (yyd rfl) (fun E M0 up=>?_);refine JK.start ?_;have c355:=fun at_=>fn56 cs ms at_;have he:=hs.m12
 (repeat (first|refine zs rfl ?_|refine zg rfl rfl rfl ?_|refine zd ?_|refine w9 ?_|refine w7 ?_|refine q5x brd rfl rfl trivial ?_|refine q49 brd rfl rfl rfl (fun h=>h) ?_|refine zc rfl (c355 r.2.1) rfl rfl ?_|refine ze rfl (c355 r.2.1) rfl ?_|refine zk rfl rfl (fun _=>c355 r.2.1) rfl rfl ?_))
 refine z5 rfl (fun hc=>?_) (fun hc=>?_)
 ·have hc:decide (inM ms r.2.1<0)=true:=hc;refine zK3 ?_;refine zR rfl trivial ?_;unfold mkM;rw[if_pos (of_decide_eq_true hc)];rfl
 have hc:decide (inM ms r.2.1<0)=false:=hc;have hc:=of_decide_eq_false hc;have hj:=z8s (at_:=r.2.1) (i:=0) hs.mo (by unfold inM at hc;omega);have hg:mkM cs ms r=(tth ms r.2.1 (cs.getD r.1.toNat (0,0,())).1 (cs.getD r.1.toNat (0,0,())).2.1.toNat).getD 0:=if_neg hc;have hh:=hs.co (cs.getD r.1.toNat (0,0,())) (by rw[j4 cs (by omega)];exact yy9 (by omega));rw[hg];clear hg hc
 (repeat (first|refine zs rfl ?_|refine zg rfl rfl rfl ?_|refine w9 ?_|refine w7 ?_|refine q5x brd rfl rfl trivial ?_|refine q49 brd rfl rfl rfl (fun h=>h) ?_))
 refine q22 xk (Tryz.f26.body.getD .skip) ⟨[(3,.lf (.optr 0 [])),(4,.val (.int .u64) 0),(5,.val (.int .u64) 0),(6,.fn 56 (.acons (vBd cs ms) .anil) .anil),(7,.lf (.optr 1 []))],[(0,.cell twT (vTw r)),(1,.cell twT (vTw (cs.getD r.1.toNat (0,0,()))))],2⟩ rfl 11 rfl ?_ ?_
 ·(refine q7 0 xk rfl rfl (q7 1 xk rfl rfl ?_);refine JF.FldP 2 brd rfl rfl ?_;refine q7 3 xk rfl rfl (q7 5 xk rfl rfl (j3 4 xk rfl rfl (j3 6 xk rfl rfl (j3 7 xk rfl rfl (j3 8 xk rfl rfl (zU 9 xk rfl rfl ?_))))));(refine z1g xk rfl rfl ?_);refine w4 ?_;refine zU 10 xk rfl rfl ?_;refine zK4 ?_;refine w4 ?_;refine q0b xk StF.nil ?_;(exact zJ))
 generalize cs.getD r.1.toNat (0,0,())=c at hh ⊢;obtain⟨⟨s1,s50⟩,t2,t20⟩:=hh;obtain⟨sp,te,u⟩:=c;dsimp only at s1 s50 t2 t20 ⊢;obtain⟨rc,ra,ru⟩:=r;dsimp only at hj hr ⊢;obtain⟨T,rfl⟩:∃ T:Nat,te=(T:Int):=⟨te.toNat,by omega⟩;rw[Int.toNat_natCast];refine zK3 ?_;refine JK.loop (σ:=Nat×Nat) (fun q=>⟨[(3,.lf (.optr 0 [])),(4,.val (.int .u64) 0),(5,vS64 q.2),(6,.fn 56 (.acons (vBd cs ms) .anil) .anil),(7,.lf (.optr 1 [])),(27,vI (T:Int)),(28,vI (q.1:Int))],[(0,.cell twT (vTw (rc,ra,ru))),(1,.cell twT (vTw (sp,(T:Int),u)))],2⟩) (fun q=>q.1≤T∧tth ms ra sp q.1=some q.2) (fun q=>T-q.1) (0,0) ⟨yyw _,rfl⟩ (by exact zJ) fun⟨t,o⟩ ⟨ht,ha⟩=>?_;dsimp only at ht ha ⊢;have ho:=z22 he ha;refine zK3 ?_;refine z5 rfl (fun hc=>?_) (fun hc=>?_)
 ·replace hc:=zC hc;have hl:t<T:=by omega
  have hp:0≤(t:Int)*sp:=Int.mul_nonneg (by omega) (by omega);have hu:(t:Int)*sp≤1000:=by have h1:(t:Int)*sp≤(t:Int)*50:=Int.mul_le_mul_of_nonneg_left s50 (by omega);omega
  have hst:tth ms ra sp (t+1)=if inM ms (ra+(t:Int)*sp)<0 then none else some (o ||| 2 ^ (inM ms (ra+(t:Int)*sp)).toNat):=by show(match tth ms ra sp t with|none=>none|some o=>_)=_;rw[ha]
  have hb:=z8r he (ra+(t:Int)*sp);have c355:=c355 (ra+(t:Int)*sp);generalize inM ms (ra+(t:Int)*sp)=m at hst hb c355
  (repeat (first|refine zs rfl ?_|refine zg rfl rfl rfl ?_|refine zd ?_|refine w9 ?_|refine w7 ?_|refine q5x brd rfl rfl trivial ?_|refine q49 brd rfl rfl rfl (fun h=>h) ?_|refine zc rfl (c355) rfl rfl ?_|refine ze rfl (c355) rfl ?_|refine zk rfl rfl (fun _=>c355) rfl rfl ?_))
  refine z5 rfl (fun hd=>?_) (fun hd=>?_)
  ·have hd:decide (m<0)=true:=hd;rw[if_pos (of_decide_eq_true hd)] at hst;have:=q6a hst (T-(t+1));rw[show t+1+(T-(t+1))=T by omega] at this;rw[this];refine zK3 ?_;refine zR rfl trivial ?_;rfl
  ·have hd:decide (m<0)=false:=hd;have hd:=of_decide_eq_false hd;rw[if_neg hd] at hst;have hb:0≤m∧m<12:=by omega
   obtain⟨k,rfl⟩:∃ k:Nat,m=(k:Int):=⟨m.toNat,by omega⟩;rw[Int.toNat_natCast] at hst;have hk:1≤(2:Int) ^ k∧(2:Int) ^ k≤4096:=by
    have h1:2 ^ k≤2 ^ 12:=yxo (by decide) (by omega);have h2:1≤2 ^ k:=Nat.one_le_two_pow;have e:(2:Int) ^ k=((2 ^ k:Nat):Int):=by push_cast;rfl
    rw[e];omega
   have hv:1≤(2:Int) ^ (Int.toNat (k:Int))∧(2:Int) ^ (Int.toNat (k:Int))≤4096:=by rw[Int.toNat_natCast];exact hk
   refine zK3 ?_;refine⟨(t+1,o ||| 2 ^ k),?_,⟨by omega,hst⟩,by dsimp only;omega⟩;dsimp only;have e:((o ||| 2 ^ k:Nat):Int)=((((o:Nat):Int).toNat ||| ((1:Int)*2 ^ (Int.toNat (k:Int))).toNat:Nat):Int):=by rw[Int.toNat_natCast,Int.toNat_natCast,one_pow]
   rw[show vS64 (o ||| 2 ^ k)=AV.val (.int .u64) ((((o:Nat):Int).toNat ||| ((1:Int)*2 ^ (Int.toNat (k:Int))).toNat:Nat):Int) by rw[← e]];exact zJ
 ·replace hc:=zC hc;have:t=T:=by omega
  subst this;rw[ha];refine zK3 ?_;refine zR rfl trivial ?_;rfl
def g7{α:Type}{p:α→Bool}:∀ {xs:List α} {i:Nat},(0≤idxB p xs i)↔xs.any p=true
 |[],i=>by simp[idxB]
 |x::r,i=>by
  simp only[idxB,List.any_cons,yyu];by_cases h:p x=true
  ·simp[h]
  ·rw[if_neg h,g7];simp[h]
variable{t1 t2:Ty}
def fn138{x1:t1.den}{x2:t2.den}(xs:List Int)(p:Int→Bool)(h:∀ x∈xs,Ox.Fn Tryz.prog f (.acons (vI x) (.acons (.val t1 x1) (.acons (.val t2 x2) .anil))) (·=vB (p x))) :
  Ox.Fn Tryz.prog 138 (.acons (vL xs) (.acons (.fn f .anil (.acons (.val t1 x1) (.acons (.val t2 x2) .anil))) .anil)) (·=vI (idxB p xs 0)):=by
 refine Ox.Fn.intro xok Tryz.func138 rfl Tryz.call138 (yyd rfl) (fun E M0 up=>?_);refine JK.start ?_;refine JK.lenOf 0 rfl fun hb=>?_;replace hb:xs.length≤9223372036854775807:=hb.1;refine zK0 ?_;refine JK.loop (fun i:Nat=>⟨[(0,vL xs),(1,.fn f .anil (.acons (.val t1 x1) (.acons (.val t2 x2) .anil))),(7,vI xs.length),(8,vI (i:Int))],[],0⟩) (fun i=>i≤xs.length∧idxB p xs 0=idxB p (xs.drop i) i) (fun i=>xs.length-i) 0 (by simp) (by exact zJ) fun i ⟨hi,hn⟩=>?_;refine zK0 ?_;refine z5 rfl (fun hc=>?_) (fun hc=>?_)
 ·replace hc:=zC hc;have ha:i<xs.length:=by omega
  have hx:=h (xs.getD i 0) (by rw[j4 xs ha];exact yy9 ha);refine zK6 ?_;refine z5 rfl (fun hd=>?_) (fun hd=>?_)
  ·refine zK0 ?_;refine zR rfl trivial ?_;rw[j4 xs ha] at hd;rw[hn,yy4 ha,idxB,if_pos hd]
  ·refine zK0 ?_;rw[j4 xs ha] at hd;refine⟨i+1,by exact zJ,⟨by omega,?_⟩,by omega⟩;rw[hn,yy4 ha,idxB,if_neg (by rw[hd];simp)]
 ·replace hc:=zC hc;refine zK0 ?_;refine zR rfl trivial ?_;obtain rfl:i=xs.length:=by omega
  rw[hn,List.drop_length];rfl
def fn66{x1:t1.den}{x2:t2.den}(xs:List Int)(p:Int→Bool)(h:∀ x∈xs,Ox.Fn Tryz.prog f (.acons (vI x) (.acons (.val t1 x1) (.acons (.val t2 x2) .anil))) (·=vB (p x))) :
  Ox.Fn Tryz.prog 66 (.acons (vL xs) (.acons (.fn f .anil (.acons (.val t1 x1) (.acons (.val t2 x2) .anil))) .anil)) (·=vB (xs.any p)):=by
 refine Ox.Fn.intro xok Tryz.func66 rfl Tryz.call66 (yyd rfl) (fun E M0 up=>?_);refine JK.start ?_
 (repeat (first|refine zs rfl ?_|refine zg rfl rfl rfl ?_|refine zd ?_|refine w9 ?_|refine w7 ?_|refine zc rfl (fn138 xs p h) rfl rfl ?_|refine ze rfl (fn138 xs p h) rfl ?_|refine zk rfl rfl (fun _=>fn138 xs p h) rfl rfl ?_))
 refine zR rfl trivial ?_;refine congrArg vB ?_;rw[yy5,← g7 (p:=p) (i:=0)];simp
def fn67(x lo hi:Int):Ox.Fn Tryz.prog 67 (.acons (vI x) (.acons (pI lo) (.acons (pI hi) .anil))) (·=vB (decide (x<lo∨x>hi))):=by refine Ox.Fn.intro xok Tryz.func67 rfl Tryz.call67 (yyd rfl) (fun E M0 up=>?_);refine JK.start ?_;refine zK0 ?_;refine zR rfl trivial ?_;by_cases h:x<lo<;>simp[h]
def fn38(lo hi:Int)(xs:List Int):Ox.Fn Tryz.prog 38 (.acons (vI lo) (.acons (vI hi) (.acons (vL xs) .anil))) (·=vB (decide (∀ x∈xs,lo≤x∧x≤hi))):=by
 refine Ox.Fn.intro xok Tryz.func38 rfl Tryz.call38 (yyd rfl) (fun E M0 up=>?_);refine JK.start ?_
 (repeat (first|refine zs rfl ?_|refine zg rfl rfl rfl ?_|refine zd ?_|refine w9 ?_|refine w7 ?_|refine zc rfl (fn66 xs (fun x=>decide (x<lo∨x>hi)) (fun x _=>fn67 x lo hi)) rfl rfl ?_|refine ze rfl (fn66 xs (fun x=>decide (x<lo∨x>hi)) (fun x _=>fn67 x lo hi)) rfl ?_|refine zk rfl rfl (fun _=>fn66 xs (fun x=>decide (x<lo∨x>hi)) (fun x _=>fn67 x lo hi)) rfl rfl ?_))
 refine zR rfl trivial ?_;refine congrArg vB ?_;rw[yy5];simp only[yys,List.any_eq_false,yyq];refine⟨fun h x hx=>?_,fun h x hx=>?_⟩
 ·have:=h x hx;omega
 ·have:=h x hx;omega
def z5j{lo hi:Int}{xs:List Int}{b:Bool}(hb:b=true)(h:∀ x∈xs,lo≤x∧x≤hi):Ox.Fn Tryz.prog 38 (.acons (vI lo) (.acons (vI hi) (.acons (vL xs) .anil))) (·=vB b):=by have:=fn38 lo hi xs;rw[decide_eq_true h,← hb] at this;exact this
def fn177(xs:List TwD)(p:TwD→Bool)(h:∀ x∈xs,Ox.Fn Tryz.prog f (.acons (vTw x) .anil) (·=vB (p x))) :
  Ox.Fn Tryz.prog 177 (.acons (.val (.slice twT) xs) (.acons (.fn f .anil .anil) .anil)) (·=vI (idxB p xs 0)):=by
 refine Ox.Fn.intro xok Tryz.func177 rfl Tryz.call177 (yyd rfl) (fun E M0 up=>?_);refine JK.start ?_;refine JK.lenOf 0 rfl fun hb=>?_;replace hb:xs.length≤9223372036854775807:=hb.1;refine zK0 ?_;refine JK.loop (fun i:Nat=>⟨[(0,.val (.slice twT) xs),(1,.fn f .anil .anil),(7,vI xs.length),(8,vI (i:Int))],[],0⟩) (fun i=>i≤xs.length∧idxB p xs 0=idxB p (xs.drop i) i) (fun i=>xs.length-i) 0 (by simp) (by exact zJ) fun i ⟨hi,hn⟩=>?_;refine zK0 ?_;refine z5 rfl (fun hc=>?_) (fun hc=>?_)
 ·replace hc:=zC hc;have ha:i<xs.length:=by omega
  have hx:=h (xs.getD i (0,0,())) (by rw[j4 xs ha];exact yy9 ha);refine zK6 ?_;refine z5 rfl (fun hd=>?_) (fun hd=>?_)
  ·refine zK0 ?_;refine zR rfl trivial ?_;rw[j4 xs ha] at hd;rw[hn,yy4 ha,idxB,if_pos hd]
  ·refine zK0 ?_;rw[j4 xs ha] at hd;refine⟨i+1,by exact zJ,⟨by omega,?_⟩,by omega⟩;rw[hn,yy4 ha,idxB,if_neg (by rw[hd];simp)]
 ·replace hc:=zC hc;refine zK0 ?_;refine zR rfl trivial ?_;obtain rfl:i=xs.length:=by omega
  rw[hn,List.drop_length];rfl
def fn120(xs:List TwD)(p:TwD→Bool)(h:∀ x∈xs,Ox.Fn Tryz.prog f (.acons (vTw x) .anil) (·=vB (p x))) :
  Ox.Fn Tryz.prog 120 (.acons (.val (.slice twT) xs) (.acons (.fn f .anil .anil) .anil)) (·=vB (xs.any p)):=by
 refine Ox.Fn.intro xok Tryz.func120 rfl Tryz.call120 (yyd rfl) (fun E M0 up=>?_);refine JK.start ?_
 (repeat (first|refine zs rfl ?_|refine zg rfl rfl rfl ?_|refine zd ?_|refine w9 ?_|refine w7 ?_|refine zc rfl (fn177 xs p h) rfl rfl ?_|refine ze rfl (fn177 xs p h) rfl ?_|refine zk rfl rfl (fun _=>fn177 xs p h) rfl rfl ?_))
 refine zR rfl trivial ?_;refine congrArg vB ?_;rw[yy5,← g7 (p:=p) (i:=0)];simp
def fn119(c:TwD)(h:(1≤c.1∧c.1≤50)∧2≤c.2.1∧c.2.1≤20):Ox.Fn Tryz.prog 119 (.acons (vTw c) .anil) (·=vB false):=by refine Ox.Fn.intro xok Tryz.func119 rfl Tryz.call119 (yyd rfl) (fun E M0 up=>?_);refine JK.start ?_;have c1:=z5j (b:=true) (lo:=1) (hi:=50) (xs:=[c.1]) rfl (by simp;omega);have c2:=z5j (b:=true) (lo:=2) (hi:=20) (xs:=[c.2.1]) rfl (by simp;omega);refine zK7 ?_;refine zR rfl trivial ?_;rfl
def okMk:List TwD→Int→Prop
 |[],_=>True
 |m::r,nx=>nx≤m.1∧m.1≤m.2.1∧m.2.1≤500∧m.2.1-m.1≤3∧okMk r (m.2.1+1)
def fn39(h:okMk ms 0)(hd:ms.length≤12):Ox.Fn Tryz.prog 39 (.acons (.val (.slice twT) ms) .anil) (·=vI 0):=by
 refine Ox.Fn.intro xok Tryz.func39 rfl Tryz.call39 (yyd rfl) (fun E M0 up=>?_);refine JK.start ?_;refine zK0 ?_;refine JK.loop (σ:=Nat×Int) (fun q=>⟨[(3,vI q.2),(6,.val (.slice twT) ms),(7,vI ms.length),(8,vI (q.1:Int))],[],0⟩) (fun q=>q.1≤ms.length∧(0≤q.2∧q.2≤501)∧okMk (ms.drop q.1) q.2) (fun q=>ms.length-q.1) (0,0) ⟨yyw _,by decide,h⟩ (by exact zJ) fun⟨i,nx⟩ ⟨hi,hb,hn⟩=>?_;dsimp only at hi hb hn ⊢;refine zK0 ?_;refine z5 rfl (fun hc=>?_) (fun hc=>?_)
 ·replace hc:=zC hc;have ha:i<ms.length:=by omega
  rw[yy4 ha] at hn;obtain⟨k1,k2,k3,k4,k5⟩:=hn;have e:ms.getD (Int.toNat (i:Int)) twT.dflt=ms[i]:=j4 ms ha _;rw[← e] at k1 k2 k3 k4 k5;have c1:=z5j (b:=true) (lo:=nx) (hi:=500) (xs:=[(ms.getD (Int.toNat (i:Int)) twT.dflt).1,(ms.getD (Int.toNat (i:Int)) twT.dflt).2.1]) rfl (fun x hx=>by simp only[yym,yxe,or_false] at hx;rcases hx with rfl|rfl<;>omega);have c2:=z5j (b:=true) (lo:=0) (hi:=3) (xs:=[(ms.getD (Int.toNat (i:Int)) twT.dflt).2.1-(ms.getD (Int.toNat (i:Int)) twT.dflt).1]) rfl (fun x hx=>by rw[yy0.1 hx];omega);refine zK7 ?_;refine z5 rfl (fun h=>absurd h (by decide)) (fun _=>?_);refine zK0 ?_;exact⟨(i+1,(ms.getD (Int.toNat (i:Int)) twT.dflt).2.1+1),by exact zJ,⟨by omega,⟨by omega,by omega⟩,k5⟩,by dsimp only;omega⟩
 ·replace hc:=zC hc;refine zK0 ?_;refine zR rfl trivial ?_;rfl
structure okSt(cs ms:List TwD):Prop extends okSh cs ms where
 mks:okMk ms 0
def fn54(h:okSt cs ms):Ox.Fn Tryz.prog 54 (.acons (.val shT (mkS cs ms)) .anil) (·=vI 0):=by
 refine Ox.Fn.intro xok Tryz.func54 rfl Tryz.call54 (yyd rfl) (fun E M0 up=>?_);refine JK.start ?_;have h1:=h.c1;have h2:=h.c8;have h3:=h.m1;have h4:=h.m12;have c1:=z5j (b:=true) (lo:=1) (hi:=8) (xs:=[(cs.length:Int)]) rfl (by simp;omega);have c2:=z5j (b:=true) (lo:=1) (hi:=12) (xs:=[(ms.length:Int)]) rfl (by simp;omega);have c3:=fn120 (f:=119) cs (fun _=>false) fun x hx=>fn119 x (h.co x hx);have e3:(cs.any fun _=>false)=false:=by simp
 rw[e3] at c3;have c4:=fn39 h.mks h.m12;refine zK7 ?_;refine z5 rfl (fun h=>absurd h (by decide)) (fun _=>?_)
 (repeat (first|refine zs rfl ?_|refine zg rfl rfl rfl ?_|refine zd ?_|refine w9 ?_|refine w7 ?_|refine zc rfl (c3) rfl rfl ?_|refine ze rfl (c3) rfl ?_|refine zk rfl rfl (fun _=>c3) rfl rfl ?_))
 refine z5 rfl (fun h=>absurd h (by decide)) (fun _=>?_)
 (repeat (first|refine zs rfl ?_|refine zg rfl rfl rfl ?_|refine zd ?_|refine w9 ?_|refine w7 ?_|refine zc rfl (c4) rfl rfl ?_|refine ze rfl (c4) rfl ?_|refine zk rfl rfl (fun _=>c4) rfl rfl ?_))
 refine zR rfl trivial ?_;rfl
end Go.Proofs.YtjecebccchhmhaaGreatDoor.Cb
namespace Ox
open Go Go.RowKit
variable {X:Ctx}{s:S}{M:Mem}{ρ:Env}{a a':Act}{w w':World}{QA:Exit→S→Prop}{K:S→Prop}{ops all l:List Oper}{ls fl fr:List Nat}{fuel:Nat}{P:Program}
variable {L L':List (Nat×AV)}{H H':List (Nat×HO)}{nx nx' d:Nat}{ty:TypeId}{ps:String}{af:Array Edge}{c1 c2:List Prop}{x om ok ov:Operand}{t:TypeId}
def RdY(X:Ctx)(o:Oper)(s:S)(v:AV):Prop:=∀ M ρ a w,SAT X M ρ s w→REG X M ρ s a→v.bd s.nx∧∃ z,v.rv M ρ z∧(execOp a.eval o).run X.P w=.ok (.value z) w
variable{op:Op}{v:AV}
def j0w(i:Nat)(hf:ftB ops ls fl i d=true)(ho:ops[i]?=some ⟨some d,op,ty,ps,af,none⟩)(h:RdY X ⟨some d,op,ty,ps,af,none⟩ ⟨L,H,nx⟩ v)(hd:ltB d X.n=true)
  (k:JF X ops K (i::fl) fuel (i::ls) ⟨(d,v)::L,H,nx⟩):JF X ops K fl (fuel+1) ls ⟨L,H,nx⟩:=by
 intro M ρ a a' w l fr ha hh hl hp h1 h2;simp only[ftB,yyc,yys] at hf;obtain⟨⟨hj,hg⟩,hk⟩:=hf;have hr:i∉fr:=fun hc=>by simp at hg;exact hg (ha i hc)
 obtain⟨hb,z,hz,_⟩:=h M ρ _ w h1 h2;have hu:PutsR ops (i::fr) a (a'.put (some d) z):=by refine⟨_,z,ho,PutsR.put (d:=some d) hp fun f hf o hv e he hw=>?_⟩;have:=yyz.1 hk f (ha f hf);rw[hv] at this;simp only[bne_iff_ne,ne_eq] at this;exact this (he.trans hw.symm)
 have:=k M ρ a (a'.put (some d) z) w l (i::fr) (fun f hf=>by
  rcases yym.1 hf with e|e
  ·exact e▸yyh
  ·exact yyi _ (ha f e)) (yxu.2 ⟨hr,hh⟩) (hl.float hj) hu (z7 (d:=some d) (v:=v) h1) (h2.putO (d:=some d) (dstOk.spec (v6 hd)) hb hz)
 rw[show fuel+1+fr.length=fuel+(i::fr).length by simp;omega];exact this
def q24(i:Nat)(ho:ops[i]?=some ⟨some d,op,ty,ps,af,none⟩)(h:RdY X ⟨some d,op,ty,ps,af,none⟩ ⟨L,H,nx⟩ v)
  (k:JF X ops K (i::fl) fuel (i::ls) ⟨(d,v)::L,H,nx⟩) (hf:ftB ops ls fl i d=true:=by decide +kernel) (hd:ltB d X.n=true:=by rfl):JF X ops K fl (fuel+1) ls ⟨L,H,nx⟩:=j0w i hf ho h hd k
def q0i{f:Nat}{r:List Nat}(ho:ops[f]?=some ⟨some d,op,ty,ps,af,none⟩)(h:RdY X ⟨some d,op,ty,ps,af,none⟩ s v)(hn:notDef op=true)(hl:lk s.L d=some v)(k:StF X ops s r)(hd:ltB d X.n=true:=by rfl):StF X ops s (f::r):=⟨⟨_,d,v,ho,rfl,hd,hn,hl,fun _ M ρ a w h1 h2=>let ⟨e1,z,e2,e3⟩:=h M ρ a w h1 h2;⟨e1,z,e2,.inl ⟨rfl,e3⟩⟩⟩,k⟩
structure Brd(P:Program)(t tm:TypeId):Prop where
 und:∃ f0 f1:Field,P.underlying t=some (.struct #[f0,f1])∧f0.offset=0∧f1.offset=2∧(∃ i,P.info? f0.type=some i∧i.size=2)∧∃ i,P.info? f1.type=some i∧i.size=1
 zero:∃ i z,P.info? t=some i∧i.zero=some (.agg z)∧z.size=3
 fld:faR P t (.p 0 0) 1=some (.p 0 2)
 map:∃ k e,P.underlying tm=some (.map k e)
def szB(P:Program)(t:TypeId)(n:Nat):Bool:=match P.info? t with|some i=>Nat.beq i.size n|none=>false
noncomputable def brdB(P:Program)(t tm:TypeId):Bool:=
 (match P.underlying t with
  |some (.struct fs)=>(match fs.toList with|[f0,f1]=>Nat.beq f0.offset 0&&Nat.beq f1.offset 2&&szB P f0.type 2&&szB P f1.type 1|_=>false)
  |_=>false) &&
 (match P.info? t with|some i=>(match i.zero with|some (.agg z)=>Nat.beq z.size 3|_=>false)|none=>false) &&
 (match faR P t (.p 0 0) 1 with|some v=>v.eqb (.p 0 2)|none=>false) &&
 (match P.underlying tm with|some (.map _ _)=>true|_=>false)
def szB_ok(h:szB P t n=true):∃ i,P.info? t=some i∧i.size=n:=by
 unfold szB at h;split at h
 ·rename_i i hi;exact⟨i,hi,yyg h⟩
 ·cases h
def Brd.of(h:brdB P t tm=true):Brd P t tm:=by
 unfold brdB at h;simp only[yyc] at h;obtain⟨⟨⟨h1,h2⟩,h3⟩,h4⟩:=h;refine⟨?_,?_,?_,?_⟩
 ·split at h1
  ·rename_i fs hu;split at h1
   ·rename_i f0 f1 hf;simp only[yyc] at h1;obtain⟨⟨⟨k0,k1⟩,k2⟩,k3⟩:=h1;refine⟨f0,f1,?_,yyg k0,yyg k1,szB_ok k2,szB_ok k3⟩;rw[hu,← Array.toArray_toList (xs:=fs),hf]
   ·cases h1
  ·cases h1
 ·split at h2
  ·rename_i i hi;split at h2
   ·rename_i z hz;exact⟨i,z,hi,hz,yyg h2⟩
   ·cases h2
  ·cases h2
 ·split at h3
  ·rename_i v hv;rw[hv,u7 h3]
  ·cases h3
 ·split at h4
  ·rename_i k e hk;exact⟨k,e,hk⟩
  ·cases h4
def arr3(z:Array α)(h:z.size=3):∃ a b c,z=#[a,b,c]:=by
 obtain⟨l⟩:=z
 match l,h with
 |[a,b,c],_=>exact⟨a,b,c,rfl⟩
def z1x(hB:Brd P t tm){x y:Value}(w:World):(Instr.build t #[(0,.agg #[x,y]),(1,.map (some b))]).run P w=.ok (.agg #[x,y,.map (some b)]) w:=by obtain⟨f0,f1,hu,o0,o1,⟨i0,q0,s0⟩,⟨i1,q1,s1⟩⟩:=hB.und;obtain⟨i,zz,hi,hz,hs⟩:=hB.zero;obtain⟨a,b',c,rfl⟩:=arr3 zz hs;simp[Instr.build,zeroValue,typeInfo,hi,hz,run_underlying hu,Go.sizeOf,q0,q1,s0,s1,o0,o1,Value.cells,Instr.fill]
abbrev mpT(A:Ty):Ty:=.cons A (.cons (.ptr .nil) .nil)
abbrev mpV(A:Ty)(y:A.den)(m:Nat):AV:=.mix (.val A y) (.mix (.lf (.mp m)) (.val .nil ()))
def mpV_conf(A:Ty)(y:A.den)(m:Nat):confB (mpT A) (mpV A y m)=true:=by simp[confB]
variable{A vt e:Ty}
def mpV_rc{y:A.den}{cs:List Value}:(mpV A y m).rc M ρ cs↔∃ c1,Rep M A y c1∧cs=c1++[.map (some (ρ.blk m))]:=by
 simp only[AV.rc,Leaf.at,yya,Rep];constructor
 ·rintro⟨c1,c2,h1,⟨d1,d2,⟨v,rfl,_,rfl⟩,rfl,rfl⟩,rfl⟩;exact⟨c1,h1,by simp⟩
 ·rintro⟨c1,h1,rfl⟩;exact⟨c1,_,h1,⟨_,[],⟨_,rfl,rfl,rfl⟩,rfl,rfl⟩,by simp⟩
def list2{l:List α}(h:l.length=2):∃ a b,l=[a,b]:=by
 match l,h with
 |[a,b],_=>exact⟨a,b,rfl⟩
def JL.bldM{y:A.den}{x0 x1:Operand}(hB:Brd X.P t tm)(hA:A.agg=true)(hs:A.size=2)(h0:opd L x0=some (c1,.val A y))(h1:opd L x1=some (c2,.lf (.mp m)))(hc:allP c1)(ha:allP c2)(hd:ltB d X.n=true)
  (k:JL X true all QA l ⟨(d,mpV A y m)::L,H,nx⟩):JL X true all QA (⟨some d,.build t #[(0,x0),(1,x1)],ty,ps,af,none⟩::l) ⟨L,H,nx⟩:=by
 refine q7p rfl rfl (v6 hd) (v:=mpV A y m) (s':=⟨L,H,nx⟩) (fun M ρ a w e1 e2=>?_) k;obtain⟨cs,hr,he⟩:=q6u h0 hc e2;have hm:=q80 h1 ha e2;have hb:=(q9 (s:=⟨L,H,nx⟩) h1 ha e2).1;rw[x5 hA] at he;obtain⟨u,v,rfl⟩:=list2 ((Rep.length hr).trans hs);refine⟨ρ,w,.value (.agg #[u,v,.map (some (ρ.blk m))]),?_,Env.upTo.refl _ _,yyo _,rfl,e1,⟨trivial,hb,trivial⟩,.inl ⟨_,rfl,?_⟩⟩
 ·have:=z1x (b:=ρ.blk m) hB (x:=u) (y:=v) w;simp only[execOp,List.map_toArray,yy2,List.map_nil,he,hm,yye,this,yyb,yyf]
 ·have:(mpV A y m).rc M ρ ([u,v]++[.map (some (ρ.blk m))]):=mpV_rc.2 ⟨[u,v],hr,rfl⟩;simp only[AV.rc,AV.rv] at this ⊢;obtain⟨d1,d2,k1,k2,k3⟩:=this;exact⟨d1,d2,k1,k2,by rw[← k3];rfl⟩
def JL.boxM{y:A.den}(h0:opd L x=some (c1,mpV A y m))(hc:allP c1)(hd:ltB d X.n=true)
  (k:JL X true all QA l ⟨(d,.lf (.optr nx []))::L,(nx,.cell (mpT A) (mpV A y m))::H,nx+1⟩):JL X true all QA (⟨some d,.box t x,ty,ps,af,none⟩::l) ⟨L,H,nx⟩:=by
 refine q7p rfl rfl (v6 hd) (v:=.lf (.optr nx [])) (s':=⟨L,(nx,.cell (mpT A) (mpV A y m))::H,nx+1⟩) (fun M ρ a w e1 e2=>?_) k;obtain⟨hb,hr⟩:=q9 (s:=⟨L,H,nx⟩) h0 hc e2;simp only[mpV,AV.rv] at hr;obtain⟨d1,d2,k1,k2,k3⟩:=hr;have ha:(mpV A y m).rc M ρ (d1++d2):=by rw[AV.rc];exact⟨d1,d2,k1,k2,rfl⟩
 refine q9j (s:=⟨L,H,nx⟩) (cs:=d1++d2) (id:=t) e1 (mpV_conf A y m) hb ha ?_;simp only[execOp,Instr.box,yye,newVar,newRow,run_newObj,yyb,yyf,k3];rfl
def own_mp(h1:SAT X M ρ s w){y:A.den}(hl:lk s.H lm=some (.cell (mpT A) (mpV A y m))):ρ.ty lm=mpT A∧∃ c ty c1,w.heap[ρ.blk lm]?=some (.cells c ty (0,0))∧Rep M A y c1∧c.toList=c1++[.map (some (ρ.blk m))]:=by obtain⟨e1,_,_,c,ty,e2,e3⟩:=y9 h1 hl;obtain⟨c1,q1,q2⟩:=mpV_rc.1 e3;exact⟨e1,c,ty,c1,e2,q1,q2⟩
def z3p(m:Nat):∀ (ms:List MapEntry) (i:Nat),(∀ e∈ms,∃ k:Nat,e.key=.int .u64 (k:Nat)) →
  (Instr.findNow (.int .u64) (.int .u64 (m:Nat)) ms i=some none∧∀ e∈ms,e.key≠.int .u64 (m:Nat)) ∨
  ∃ j e,ms[j]?=some e∧e.key=.int .u64 (m:Nat)∧Instr.findNow (.int .u64) (.int .u64 (m:Nat)) ms i=some (some (i+j,e.val))
 |[],i,_=>.inl ⟨rfl,fun e he=>by cases he⟩
 |x::r,i,h=>by
  obtain⟨k,hk⟩:=h x yyh;by_cases e:m=k
  ·subst e;refine .inr ⟨0,x,rfl,hk,?_⟩;simp[Instr.findNow,Instr.sameNow,hk]
  ·have he:((m:Int)==(k:Int))=false:=by simp;omega
   rcases z3p m r (i+1) (fun e he=>h e (yyi _ he)) with⟨h1,h2⟩|⟨j,y,h1,h2,h3⟩
   ·refine .inl ⟨?_,fun y hy=>?_⟩
    ·simp only[Instr.findNow,hk,Instr.sameNow,if_true,he];exact h1
    ·rcases yym.1 hy with rfl|hy
     ·rw[hk];intro hq;injection hq with _ hq;omega
     ·exact h2 y hy
   ·refine .inr ⟨j+1,y,h1,h2,?_⟩;simp only[Instr.findNow,hk,Instr.sameNow,if_true,he];rw[h3];congr 3;omega
def z3y(hT:MapT P (.int .u64) vt t kid vid)(m:Nat)(ms:List MapEntry)(h:∀ e∈ms,∃ k:Nat,e.key=.int .u64 (k:Nat))(w:World) :
  ((Instr.findKey kid (.int .u64 (m:Nat)) ms).run P w=.ok none w∧∀ e∈ms,e.key≠.int .u64 (m:Nat)) ∨
  ∃ j e,ms[j]?=some e∧e.key=.int .u64 (m:Nat)∧(Instr.findKey kid (.int .u64 (m:Nat)) ms).run P w=.ok (some (j,e.val)) w:=by
 have hu:P.underlying kid=some (.int .u64):=hT.key.ty.under;unfold Instr.findKey;rcases z3p m ms 0 h with⟨h1,h2⟩|⟨j,e,h1,h2,h3⟩
 ·exact .inl ⟨by simp[run_underlying hu,h1],h2⟩
 ·exact .inr ⟨j,e,h1,h2,by simp[run_underlying hu,h3]⟩
def z8p(hT:MapT P (.int .u64) vt t kid vid)(em:Bool)(m:Nat)(w:World):(Instr.checkKey em 10000 kid (.int .u64 (m:Nat))).run P w=.ok () w:=q79 (M:=fun _=>none) hT.key (x:=(m:Int)) (cx:=[.int .u64 (m:Nat)]) (by simp only[Rep]) em w
variable{f:Nat→Nat}
def z3j(h1:SAT X M ρ s w)(hl:lk s.H m=some (.mrow f n c)):∃ ms clk,w.heap[ρ.blk m]?=some (.map ms clk)∧ms.size≤c∧(∀ e∈ms,∃ k,k<n∧e.key=.int .u64 (k:Nat)∧e.val=ρ.sv (f k)) ∧
   (∀ k,k<n→(∀ e∈ms,e.key≠.int .u64 (k:Nat))→ρ.sv (f k)=.slice none 0 0)∧(∀ i j,∀ (hi:i<ms.size) (hj:j<ms.size),ms[i].key=ms[j].key→i=j):=(y9 h1 hl).2
def z7g(hu:opd L ok=some (c2,.val (.int .u64) (m:Int)))(hc:allP c2)(h2:REG X M ρ ⟨L,H,nx⟩ a):a.eval ok=.int .u64 (m:Nat):=by obtain⟨cs,h,e⟩:=q6u hu hc h2;simp only[Rep] at h;subst h;exact e
def q6j{xs:List e.den}(hT:MapT X.P (.int .u64) (.slice e) t kid vid)(hu:opd L om=some (c1,.lf (.mp lm)))(hl:lk H lm=some (.mrow f n c))(hv:opd L ok=some (c2,.val (.int .u64) (m:Int)))
  (hm:m<n) (hr:lk H (f m)=some (.sl eid e xs)) (hc:allP c1) (hg:allP c2):RdY X ⟨some d,.lookup t om ok false,ty,ps,af,none⟩ ⟨L,H,nx⟩ (.lf (.osl (f m))):=by
 intro M ρ a w h1 h2;obtain⟨ms,clk,e1,_,e3,e4,_⟩:=z3j (s:=⟨L,H,nx⟩) h1 hl;have hb:=y9 (s:=⟨L,H,nx⟩) h1 hr;have hd:(ρ.sv (f m)).oneCell'=true:=by obtain⟨_,cs,ho,_⟩:=hb;rcases ho.2 with⟨q,_⟩|⟨g,cap,cur,q,_⟩<;>rw[q]<;>rfl
 have ha:∀ e∈ms.toList,∃ k:Nat,e.key=.int .u64 (k:Nat):=fun e he=>by obtain⟨k,_,q,_⟩:=e3 e (by simpa using he);exact⟨k,q⟩
 refine⟨(h1.own _ _ hr).1,ρ.sv (f m),v4.2 ⟨rfl,hd⟩,?_⟩;have key:(Instr.lookup t (.map (some (ρ.blk lm))) (.int .u64 (m:Nat)) false).run X.P w=.ok (ρ.sv (f m)) w:=by
  unfold Instr.lookup;simp only[yye,run_underlying hT.under,yyb,MapKept.run_getObj_map e1,yyf,z8p hT];rcases z3y hT m ms.toList ha w with⟨q1,q2⟩|⟨j,en,q1,q2,q3⟩
  ·have hz:ρ.sv (f m)=.slice none 0 0:=e4 m hm fun e he=>q2 e (by simpa using he);rw[hz];simp[q1,val_zero hT.val];rfl
  ·obtain⟨k,_,k2,k3⟩:=e3 en (by have:=List.mem_of_getElem? q1;simpa using this);have:k=m:=by rw[q2] at k2;injection k2 with _ k2;omega
   subst this;simp[q3,k3]
 simp only[execOp,q80 hu hc h2,z7g hv hg h2,yye,key,yyb,yyf]
variable {c3:List Prop}
def JL.appR{q:Nat}{xs ys:List e.den}{y:Operand}{vy:AV}(hX:XOK X)(hT:lk X.T t=some (.slice e))(hE:lk X.ET t=some eid)(ha:0<e.size)(hu:opd L x=some (c1,.lf (.osl q)))(hl:lk H q=some (.sl eid e xs))
  (hv:opd L y=some (c2,vy)) (hg:srcK e H vy (fun cs q=>some (cs,q))=some (c3,ys)) (hy:xs.length+ys.length≤100000000) (hc:allP c1) (hz:allP c2) (hA:allP c3) (hd:ltB d X.n=true) (hH:∀ l o,lk H' l=some o→l≠q∧lk H l=some o)
  (k:JL X true all QA l ⟨(d,.lf (.osl nx))::L,(nx,.sl eid e (xs++ys))::H',nx+1⟩) :
  JL X true all QA (⟨some d,.call {callee:=.builtin .append,args:=⟨[x,y]⟩,argTypes:=⟨[t,t]⟩},ty,ps,af,none⟩::l) ⟨L,H,nx⟩:=by
 refine q7p rfl rfl (v6 hd) (v:=.lf (.osl nx)) (s':=⟨L,(nx,.sl eid e (xs++ys))::H',nx+1⟩) (fun M ρ a w h1 h2=>?_) k;have eu:=(q9 (s:=⟨L,H,nx⟩) hu hc h2).2;have ev:=q9 (s:=⟨L,H,nx⟩) hv hz h2;obtain⟨cs',ys',hk,hs⟩:=q25 h1 hg ev.2;simp only[yya,yyl] at hk;obtain⟨rfl,rfl⟩:=hk;obtain⟨ad,scap,news,k1,k2,k3,k4⟩:=hs hA;have ht:=hX.t _ _ hT;rw[TyOf] at ht;obtain⟨eid2,hp,he⟩:=ht;have hh:eid2=eid:=by have q1:=hX.e _ _ hE;rw[hp.under] at q1;injection q1 with q1;injection q1
 subst hh;rw[v4] at eu;simp only[Leaf.at,yya] at eu;obtain⟨_,cs0,hj,hB⟩:=y9 (s:=⟨L,H,nx⟩) h1 hl;have hC:=h1.below.size;obtain⟨v',w',r1,r2,r3,r4⟩:=q1o (ty:=ty) hp.under he ha hj k2.1 k3 k2.one (fun h=>⟨(k4 h).1,by rw[(k4 h).2];rfl⟩) hy hC;have hw:(HO.sl eid2 e xs).at ρ q=(ρ.sv q).ownBlock:=rfl;refine q36 (s:=⟨L,H,nx⟩) (xs:=xs++ys') h1 r3 (fun b hb=>h1.row hl b (by rw[hw];exact hb)) ?_ (by rw[yyx];exact r2) (hB.append k2) ?_ (r:=_) ?_
 ·intro m o hm;obtain⟨h3,h4⟩:=hH m o hm;exact⟨h4,fun b hb hr=>h3 (h1.apart q m _ o b hl h4 (by rw[hw];exact hr) hb).symm⟩
 ·intro b hb;rcases r4 with r4|r4
  ·exact .inl (by rw[← r4];exact hb)
  ·rw[hb] at r4;injection r4 with r4;exact .inr (by omega)
 ·simp only[execOp,resolve,invoke,builtin,yye,yyf,yyb,List.map_toArray,yy2,List.map_nil,← eu.1,k1,r1]
def JL.putR{f f':Nat→Nat}(hT:MapT X.P (.int .u64) (.slice e) t kid vid)(hu:opd L om=some (c1,.lf (.mp lm)))(hl:lk H lm=some (.mrow f n c))(hv:opd L ok=some (c2,.val (.int .u64) (m:Int)))
  (hy:opd L ov=some (c3,.lf (.osl j))) (hm:m<n) (hf:∀ k,f' k=if k=m then j else f k) (hc:allP c1) (hA:allP c2) (hB:allP c3)
  (k:JL X true all QA l ⟨L,updH H lm (.mrow f' n (c+1)),nx⟩):JL X true all QA (⟨none,.mapUpdate t om ok ov,ty,ps,af,none⟩::l) ⟨L,H,nx⟩:=by
 refine q7p rfl rfl trivial (v:=.undef) (s':=⟨L,updH H lm (.mrow f' n (c+1)),nx⟩) (fun M ρ a w h1 h2=>?_) k;obtain⟨ms,clk,e1,e2,e3,e4,e5⟩:=z3j (s:=⟨L,H,nx⟩) h1 hl;obtain⟨hC,ej⟩:=q9 (s:=⟨L,H,nx⟩) hy hB h2;have ej:=(v4.1 ej).1;simp only[Leaf.at,yya] at ej;have hD:=(yyj.1 e1).1;have hp:∀ i,i<n→f i<nx:=(h1.own _ _ hl).2.1;have hE:=(y9 (s:=⟨L,H,nx⟩) h1 hl).1;have hb:∀ e∈ms.toList,∃ k:Nat,e.key=.int .u64 (k:Nat):=fun e he=>by obtain⟨k,_,q,_⟩:=e3 e (by simpa using he);exact⟨k,q⟩
 have hd:∀ (ms':Array MapEntry) (clk':Nat),ms'.size≤c+1→(∀ e∈ms',∃ k,k<n∧e.key=.int .u64 (k:Nat)∧e.val=ρ.sv (f' k))→(∀ k,k<n→(∀ e∈ms',e.key≠.int .u64 (k:Nat))→ρ.sv (f' k)=.slice none 0 0) →
   (∀ i j,∀ (hi:i<ms'.size) (hj:j<ms'.size),ms'[i].key=ms'[j].key→i=j)→SAT X M ρ ⟨L,updH H lm (.mrow f' n (c+1)),nx⟩ (ChangeMaps.setBlock w (ρ.blk lm) (.map ms' clk')):=by
  intro ms' clk' q1 q2 q3 q4;refine SAT.upd (s:=⟨L,H,nx⟩) h1 hl ⟨rfl,rfl,rfl,by simp[ChangeMaps.setBlock],fun k hk hF=>?_⟩ rfl (fun i hi=>?_) ?_
  ·simp only[ChangeMaps.setBlock];rw[yx6];exact fun h=>hF (by rw[← h];rfl)
  ·rw[hf];split
   ·exact hC
   ·exact hp i hi
  ·simp only[HO.ok];refine⟨hE,ms',clk',?_,q1,q2,q3,q4⟩;simp only[ChangeMaps.setBlock];rw[yx7 hD]
 have run:∀ ms' clk',(Instr.mapUpdate t (.map (some (ρ.blk lm))) (.int .u64 (m:Nat)) (ρ.sv j)).run X.P w=.ok () (ChangeMaps.setBlock w (ρ.blk lm) (.map ms' clk'))→SAT X M ρ ⟨L,updH H lm (.mrow f' n (c+1)),nx⟩ (ChangeMaps.setBlock w (ρ.blk lm) (.map ms' clk')) →
   Did X M ρ ⟨L,H,nx⟩ .undef ⟨L,updH H lm (.mrow f' n (c+1)),nx⟩ ((execOp a.eval ⟨none,.mapUpdate t om ok ov,ty,ps,af,none⟩).run X.P w):=by
  intro ms' clk' hr hs;refine⟨ρ,_,_,?_,Env.upTo.refl _ _,yyo _,rfl,hs,trivial,.inr ⟨rfl,rfl⟩⟩;simp only[execOp,q80 hu hc h2,z7g hv hA h2,← ej,yye,hr,yyb,yyf]
 have hz:f' m=j:=by rw[hf,if_pos rfl]
 rcases z3y hT m ms.toList hb w with⟨q1,q2⟩|⟨i,en,q1,q2,q3⟩
 ·
  have hw:∀ e∈ms,e.key≠.int .u64 (m:Nat):=fun e he=>q2 e (by simpa using he);refine run (ms.push ⟨.int .u64 (m:Nat),ρ.sv j,clk⟩) (clk+1) ?_ (hd _ _ (by simp;omega) (fun e he=>?_) (fun k hk he=>?_) (fun i i' hi hG he=>?_))
  ·unfold Instr.mapUpdate;simp only[yye,run_underlying hT.under,yyb,MapKept.run_getObj_map e1,z8p hT,q1,MapKept.run_setObj_map _ e1];rfl
  ·rcases Array.mem_push.1 he with he|rfl
   ·obtain⟨k,k1,k2,k3⟩:=e3 e he;have:k≠m:=fun h=>hw e he (by rw[k2,h]);exact⟨k,k1,k2,by rw[hf,if_neg this];exact k3⟩
   ·exact⟨m,hm,rfl,by rw[hz]⟩
  ·have:k≠m:=fun h=>he _ (Array.mem_push_self) (by rw[h]);rw[hf,if_neg this];exact e4 k hk fun e h=>he e (Array.mem_push_of_mem _ h)
  ·simp only[Array.size_push] at hi hG;rw[Array.getElem_push,Array.getElem_push] at he;by_cases h:i<ms.size<;>by_cases h':i'<ms.size
   ·rw[dif_pos h,dif_pos h'] at he;exact e5 i i' h h' he
   ·rw[dif_pos h,dif_neg h'] at he;exact absurd he (hw _ (Array.getElem_mem h))
   ·rw[dif_neg h,dif_pos h'] at he;exact absurd he.symm (hw _ (Array.getElem_mem h'))
   ·omega
 ·
  have hi:i<ms.size:=by have:=(yy7.1 q1).1;simpa using this
  have hH:ms[i]=en:=by have:=(yy7.1 q1).2;simpa using this
  have hg:ms[i].key=.int .u64 (m:Nat):=by rw[hH];exact q2
  have ha:∀ q (h:q<(ms.modify i fun e=>{e with key:=.int .u64 (m:Nat),val:=ρ.sv j}).size),∃ h':q<ms.size,(ms.modify i fun e=>{e with key:=.int .u64 (m:Nat),val:=ρ.sv j})[q].key=ms[q].key ∧
    (q=i→(ms.modify i fun e=>{e with key:=.int .u64 (m:Nat),val:=ρ.sv j})[q].val=ρ.sv j)∧(q≠i→(ms.modify i fun e=>{e with key:=.int .u64 (m:Nat),val:=ρ.sv j})[q]=ms[q]):=by
   intro q h;refine⟨by simpa using h,?_⟩;rw[Array.getElem_modify];by_cases e:i=q
   ·subst e;simp only[if_true,hg,true_and,forall_const,ne_eq,not_true_eq_false,false_implies,and_self]
   ·rw[if_neg e];exact⟨rfl,fun h=>absurd h.symm e,fun _=>rfl⟩
  refine run (ms.modify i fun e=>{e with key:=.int .u64 (m:Nat),val:=ρ.sv j}) clk ?_ (hd _ _ (by simp;omega) (fun e he=>?_) (fun k hk he=>?_) (fun q q' h h' he=>?_))
  ·unfold Instr.mapUpdate;simp only[yye,run_underlying hT.under,yyb,MapKept.run_getObj_map e1,z8p hT,q3];have hst:(Instr.keyThatStays (((ms[i]?).map (·.key)).getD (.int .u64 (m:Nat))) (.int .u64 (m:Nat))).run X.P w=.ok (.int .u64 (m:Nat)) w:=by rw[Array.getElem?_eq_getElem hi];simp[Instr.keyThatStays,hg,Instr.sameBits]
   rw[hst];simp only[yyb,MapKept.run_setObj_map _ e1];rfl
  ·obtain⟨q,hq,rfl⟩:=Array.getElem_of_mem he;obtain⟨h',g1,g2,g3⟩:=ha q hq;by_cases e:q=i
   ·exact⟨m,hm,by rw[g1];subst e;exact hg,by rw[g2 e,hz]⟩
   ·rw[g3 e];obtain⟨k,k1,k2,k3⟩:=e3 _ (Array.getElem_mem h');have:k≠m:=fun h=>e (e5 q i h' hi (by rw[k2,hg,h]));exact⟨k,k1,k2,by rw[hf,if_neg this];exact k3⟩
  ·have hh:∀ q,q<ms.size→q<(ms.modify i fun e=>{e with key:=.int .u64 (m:Nat),val:=ρ.sv j}).size:=fun q h=>by simpa using h
   have hJ:k≠m:=fun h=>by obtain⟨_,g1,_⟩:=ha i (hh i hi);exact he _ (Array.getElem_mem (hh i hi)) (by rw[g1,hg,h])
   rw[hf,if_neg hJ];refine e4 k hk fun e h=>?_;obtain⟨q,hq,rfl⟩:=Array.getElem_of_mem h;obtain⟨_,g1,_⟩:=ha q (hh q hq);rw[← g1];exact he _ (Array.getElem_mem (hh q hq))
  ·obtain⟨hK,g1,_⟩:=ha q h;obtain⟨hL,g2,_⟩:=ha q' h';rw[g1,g2] at he;exact e5 q q' hK hL he
def rwH(eid:TypeId)(e:Ty)(b n:Nat)(g:Nat→List e.den):List (Nat×HO):=(List.range n).map fun k=>(b+k,.sl eid e (g k))
def z5d{eid:TypeId}{e:Ty}{b l:Nat}{g:Nat→List e.den}:∀ {n:Nat},lk (rwH eid e b n g) l=if b≤l∧l<b+n then some (.sl eid e (g (l-b))) else none
 |0=>by rw[if_neg (by omega)];rfl
 |n+1=>by
  have:rwH eid e b (n+1) g=rwH eid e b n g++[(b+n,.sl eid e (g n))]:=by simp[rwH,List.range_succ]
  rw[this,q6y,z5d];by_cases h:b≤l∧l<b+n
  ·rw[if_pos h,if_pos (by omega)]
  ·rw[if_neg h];show(if b+n=l then some (HO.sl eid e (g n)) else none)=_;by_cases h2:b+n=l
   ·rw[if_pos h2,if_pos (by omega),show l-b=n by omega]
   ·rw[if_neg h2,if_neg (by omega)]
def rwD(eid:TypeId)(e:Ty)(b n m:Nat)(g:Nat→List e.den):List (Nat×HO):=(rwH eid e b n g).filter fun p=>p.1 != b+m
def z0n{α:Type}{q d:Nat}:∀ {r:List (Nat×α)},lk (r.filter fun p=>p.1 != q) d=if d=q then none else lk r d
 |[]=>by split<;>rfl
 |(k,v)::r=>by
  have ih:=z0n (q:=q) (d:=d) (r:=r);by_cases h:k=q
  ·subst h;rw[yx8 (by simp),ih];by_cases h2:d=k
   ·rw[if_pos h2,if_pos h2]
   ·rw[if_neg h2,if_neg h2];show _=if k=d then some v else lk r d;rw[if_neg (fun h=>h2 h.symm)]
  ·rw[List.filter_cons_of_pos (by simp[h])];show(if k=d then some v else lk (r.filter fun p=>p.1 != q) d)=if d=q then none else if k=d then some v else lk r d;rw[ih];by_cases h2:k=d
   ·subst h2;rw[if_pos rfl,if_neg h,if_pos rfl]
   ·rw[if_neg h2,if_neg h2]
def lk_rwD{b l n m:Nat}{g:Nat→List e.den}:lk (rwD eid e b n m g) l=if b≤l∧l<b+n∧l≠b+m then some (.sl eid e (g (l-b))) else none:=by
 unfold rwD;rw[z0n,z5d];by_cases h:l=b+m
 ·rw[if_pos h,if_neg (by omega)]
 ·rw[if_neg h];by_cases h2:b≤l∧l<b+n
  ·rw[if_pos h2,if_pos ⟨h2.1,h2.2,h⟩]
  ·rw[if_neg h2,if_neg (by omega)]
def JW.ofP(f:Nat→Nat)(hL:covL f L' s.L)(hH:∀ l o,lk H' l=some o→lk s.H (f l)=some (o.ren f))(hg:bdL nx' L')(hh:∀ l o,lk H' l=some o→l<nx'∧o.bd nx')
  (hi:∀ l l' o o',lk H' l=some o→lk H' l'=some o'→f l=f l'→l=l'):JW X ⟨L',H',nx'⟩ s:=by
 intro M ρ a w h1 h2;refine⟨ρ.via f,⟨h1.below,h1.msub,h1.mnew,h1.mem,fun l o hl=>?_,fun l l' o o' b hl ha hb he=>?_,fun l o b hl hb=>?_⟩,⟨h2.size,h2.defers,fun d v hd=>?_⟩⟩
 ·have e:=hh l o hl;exact⟨e.1,e.2,q7r (h1.own _ _ (hH l o hl)).2.2⟩
 ·rw[q1g] at hb he;exact hi l l' o o' hl ha (h1.apart _ _ _ _ b (hH l o hl) (hH l' o' ha) hb he)
 ·rw[q1g] at hb;exact h1.notM _ _ b (hH l o hl) hb
 ·have e:=q7a hL d v (v7 hd);exact⟨q00 hg d v (v7 hd),q4h M ρ f v _ (h2.reg _ _ e).2⟩
def rnB(b n m j l:Nat):Nat:=bif Nat.ble b l&&Nat.blt l (b+n) then(if l=b+m then j else l) else l
def outB(b n j:Nat)(r:List (Nat×HO)):Bool:=r.all fun p=>!(Nat.ble b p.1&&Nat.blt p.1 (b+n))&&!(Nat.beq p.1 j)
def z11{b n m j l:Nat}(h:¬ (b≤l∧l<b+n)):rnB b n m j l=l:=by
 unfold rnB;have:(Nat.ble b l&&Nat.blt l (b+n))=false:=by rw[Bool.eq_false_iff];intro hc;simp only[yyc,Nat.ble_eq,Nat.blt_eq] at hc;exact h hc
 rw[this];rfl
def rnB_in{b n m j l:Nat}(h:b≤l∧l<b+n):rnB b n m j l=if l=b+m then j else l:=by
 unfold rnB;have:(Nat.ble b l&&Nat.blt l (b+n))=true:=by simp only[yyc,Nat.ble_eq,Nat.blt_eq];exact h
 rw[this];rfl
def q4j{r:List (Nat×HO)}(h:outB b n j r=true){l:Nat}{o:HO}(hl:lk r l=some o):¬ (b≤l∧l<b+n)∧l≠j:=by
 have:=yyz.1 h _ (v7 hl);simp only[yyc,yys] at this;refine⟨fun hc=>?_,fun e=>?_⟩
 ·have h2:=this.1;have h3:(Nat.ble b l&&Nat.blt l (b+n))=true:=by simp only[yyc,Nat.ble_eq,Nat.blt_eq];exact hc
  rw[h3] at h2;cases h2
 ·have h2:=this.2;subst e;have:Nat.beq l l=true:=Nat.beq_refl l;rw[this] at h2;cases h2
def JW.rows(b n m j:Nat){g':Nat→List e.den}{front:List (Nat×HO)}(hL:covL (rnB b n m j) L' s.L)(hF:covH (rnB b n m j) front s.H)(ha:bdL nx' L')(hb:bdH nx' front)
  (hi:injH (rnB b n m j) front=true) (ho:outB b n j front=true) (hn:b+n≤nx') (hj:j<b∨b+n≤j) (hr:∀ k,k<n→lk s.H (if k=m then j else b+k)=some (.sl eid e (g' k))):JW X ⟨L',front++rwH eid e b n g',nx'⟩ s:=by
 have spl:∀ l o,lk (front++rwH eid e b n g') l=some o→lk front l=some o∨((b≤l∧l<b+n)∧o=.sl eid e (g' (l-b))):=by
  intro l o hl;rw[q6y,z5d] at hl;cases hf:lk front l with
  |some o'=>rw[hf] at hl;exact .inl hl
  |none=>
   rw[hf] at hl;by_cases h:b≤l∧l<b+n
   ·rw[if_pos h] at hl;exact .inr ⟨h,by injection hl with hl;exact hl.symm⟩
   ·rw[if_neg h] at hl;cases hl
 have fin:∀ l,(b≤l∧l<b+n)→rnB b n m j l=if l-b=m then j else b+(l-b):=fun l h=>by
  rw[rnB_in h];by_cases h2:l=b+m
  ·rw[if_pos h2,if_pos (by omega)]
  ·rw[if_neg h2,if_neg (by omega)];omega
 refine JW.ofP (rnB b n m j) hL (fun l o hl=>?_) ha (fun l o hl=>?_) (fun l l' o o' hl hd e=>?_)
 ·rcases spl l o hl with h|⟨h,rfl⟩
  ·exact q7b hF l o (v7 h)
  ·rw[fin l h,hr (l-b) (by omega)];rfl
 ·rcases spl l o hl with h|⟨h,rfl⟩
  ·exact q0h hb l o (v7 h)
  ·exact⟨by omega,trivial⟩
 ·rcases spl l o hl with h|⟨h,rfl⟩<;>rcases spl l' o' hd with h'|⟨h',rfl⟩
  ·exact q60 hi l o l' o' (v7 h) (v7 h') e
  ·obtain⟨q1,q2⟩:=q4j ho h;rw[z11 q1,fin l' h'] at e;by_cases h3:l'-b=m
   ·rw[if_pos h3] at e;exact absurd e q2
   ·rw[if_neg h3] at e;omega
  ·obtain⟨q1,q2⟩:=q4j ho h';rw[z11 q1,fin l h] at e;by_cases h3:l-b=m
   ·rw[if_pos h3] at e;exact absurd e.symm q2
   ·rw[if_neg h3] at e;omega
  ·rw[fin l h,fin l' h'] at e;by_cases h3:l-b=m<;>by_cases h4:l'-b=m
   ·omega
   ·rw[if_pos h3,if_neg h4] at e;omega
   ·rw[if_neg h3,if_pos h4] at e;omega
   ·rw[if_neg h3,if_neg h4] at e;omega
def JL.makeR(f:Nat→Nat)(hd:ltB d X.n=true)(k:JL X true all QA l ⟨(d,.lf (.mp nx))::L,(nx,.mrow f 0 0)::H,nx+1⟩):JL X true all QA (⟨some d,.makeMap t none,ty,ps,af,none⟩::l) ⟨L,H,nx⟩:=by
 refine q7p rfl rfl (v6 hd) (v:=.lf (.mp nx)) (s':=⟨L,(nx,.mrow f 0 0)::H,nx+1⟩) (fun M ρ a w h1 h2=>?_) k;have hs:=h1.newOb (ob:=.map #[] 0) (o:=.mrow f 0 0) (fun _=>rfl) (fun i h=>absurd h (Nat.not_lt_zero _)) (by simp only[HO.ok,Env.with,if_true];exact⟨h1.below.size,#[],0,heap_alloc_new w _,yyo _,fun e he=>absurd he (by simp),fun k hk=>absurd hk (Nat.not_lt_zero _),fun i j hi=>absurd hi (Nat.not_lt_zero _)⟩)
 refine⟨_,_,_,?_,j9 _ _ w.heap.size .nil Go.undef,yxf _,rfl,hs,yxd _,.inl ⟨.map (some w.heap.size),rfl,?_⟩⟩
 ·simp only[execOp,Instr.makeMap,Option.map_none,yye,run_newObj_alloc,yyb,yyf]
 ·rw[v4];simp[Leaf.at,Env.with,Value.oneCell']
def Env.nilsFrom(ρ:Env)(b:Nat)(e:Ty):Env:=⟨ρ.blk,fun k=>if b≤k then e else ρ.ty k,fun k=>if b≤k then .slice none 0 0 else ρ.sv k⟩
def JW.rows0(b n:Nat)(hb:nx≤b)(hn:b+n≤nx'):JW X ⟨L,(lm,.mrow (fun k=>b+k) n 0)::(H++rwH eid e b n fun _=>[]),nx'⟩ ⟨L,(lm,.mrow f 0 0)::H,nx⟩:=by
 intro M ρ a w h1 h2;have hup:ρ.upTo (ρ.nilsFrom b e) nx:=fun l hl=>by
  have:¬ b≤l:=by omega
  simp[Env.nilsFrom,this]
 have hp:=h1.own lm _ (show lk ((lm,HO.mrow f 0 0)::H) lm=_ by rw[lk,if_pos rfl]);have spl:∀ l o,lk ((lm,HO.mrow (fun k=>b+k) n 0)::(H++rwH eid e b n fun _=>[])) l=some o→(l=lm∧o=.mrow (fun k=>b+k) n 0)∨(l≠lm∧lk H l=some o)∨((b≤l∧l<b+n)∧o=.sl eid e []):=by
  intro l o hl;rw[lk] at hl;by_cases h:lm=l
  ·rw[if_pos h] at hl;injection hl with hl;exact .inl ⟨h.symm,hl.symm⟩
  ·rw[if_neg h,q6y,z5d] at hl;cases hf:lk H l with
   |some o'=>rw[hf] at hl;exact .inr (.inl ⟨fun h'=>h h'.symm,hl⟩)
   |none=>
    rw[hf] at hl;by_cases h:b≤l∧l<b+n
    ·rw[if_pos h] at hl;exact .inr (.inr ⟨h,by injection hl with hl;exact hl.symm⟩)
    ·rw[if_neg h] at hl;cases hl
 have old:∀ l o,l≠lm→lk H l=some o→lk ((lm,HO.mrow f 0 0)::H) l=some o:=fun l o h hl=>by rw[lk,if_neg (fun h'=>h h'.symm)];exact hl
 have ha:lk ((lm,HO.mrow f 0 0)::H) lm=some (.mrow f 0 0):=by rw[lk,if_pos rfl]
 have hg:∀ l o bb,lk ((lm,HO.mrow (fun k=>b+k) n 0)::(H++rwH eid e b n fun _=>[])) l=some o→o.at (ρ.nilsFrom b e) l=some bb→∃ o',lk ((lm,HO.mrow f 0 0)::H) l=some o'∧o'.at ρ l=some bb:=by
  intro l o bb hl hh;rcases spl l o hl with⟨rfl,rfl⟩|⟨h,h'⟩|⟨h,rfl⟩
  ·exact⟨_,ha,hh⟩
  ·exact⟨o,old l o h h',by rw[← q0w hup (h1.own l o (old l o h h')).1 o];exact hh⟩
  ·simp[HO.at,Env.nilsFrom,h.1,Value.ownBlock] at hh
 refine⟨ρ.nilsFrom b e,⟨h1.below,h1.msub,h1.mnew,h1.mem,fun l o hl=>?_,fun l l' o o' bb hl hr hj hu=>?_,fun l o bb hl hj=>?_⟩,⟨h2.size,h2.defers,fun d v hd=>?_⟩⟩
 ·rcases spl l o hl with⟨rfl,rfl⟩|⟨h,h'⟩|⟨h,rfl⟩
  ·obtain⟨q1,ms,clk,q2,q3,_⟩:=hp.2.2;refine⟨yxa hp.1 (show nx≤nx' by omega),fun i hi=>by show b+i<nx';omega,q1,ms,clk,q2,q3,fun e he=>?_,fun k hk _=>?_,fun i j hi=>?_⟩
   ·obtain⟨i,hi,_⟩:=Array.getElem_of_mem he;exact absurd hi (by omega)
   ·simp[Env.nilsFrom]
   ·exact absurd hi (by omega)
  ·have g:=h1.own l o (old l o h h');exact⟨yxa g.1 (by show nx≤nx';omega),q1f (by show nx≤nx';omega) g.2.1,q0v (Mem.le_refl M) hup g.1 g.2.1 g.2.2⟩
  ·refine⟨by show l<nx';omega,trivial,?_⟩;simp only[HO.ok];exact⟨by simp[Env.nilsFrom,h.1],[],⟨by simp,.inl ⟨by simp[Env.nilsFrom,h.1],rfl⟩⟩,by simp,fun i h=>absurd h (by simp)⟩
 ·obtain⟨o1,g1,g2⟩:=hg l o bb hl hj;obtain⟨o2,g3,g4⟩:=hg l' o' bb hr hu;exact h1.apart l l' o1 o2 bb g1 g3 g2 g4
 ·obtain⟨o1,g1,g2⟩:=hg l o bb hl hj;exact h1.notM l o1 bb g1 g2
 ·have g:=h2.reg d v hd;exact⟨z8 (by show nx≤nx';omega) g.1,j6 (Mem.le_refl M) hup g.1 g.2⟩
variable {r:List Fr}
variable {y:Operand}
def JK.makeR(f:Nat→Nat)(hd:ltB d X.n=true)(k:JK X (.ops true all l::r) QA ⟨(d,.lf (.mp nx))::L,(nx,.mrow f 0 0)::H,nx+1⟩):JK X (.ops true all (⟨some d,.makeMap t none,ty,ps,af,none⟩::l)::r) QA ⟨L,H,nx⟩:=JL.makeR f hd k
def JK.bldM{tm:TypeId}{A:Ty}{yA:A.den}{m:Nat}{x0 x1:Operand}(hB:Brd X.P t tm)(hA:A.agg=true)(hs:A.size=2)(h0:opd L x0=some (c1,.val A yA))(h1:opd L x1=some (c2,.lf (.mp m)))(hc:allP c1)(ha:allP c2)(hd:ltB d X.n=true)
  (k:JK X (.ops true all l::r) QA ⟨(d,mpV A yA m)::L,H,nx⟩):JK X (.ops true all (⟨some d,.build t #[(0,x0),(1,x1)],ty,ps,af,none⟩::l)::r) QA ⟨L,H,nx⟩:=JL.bldM hB hA hs h0 h1 hc ha hd k
def JK.boxM{A:Ty}{yA:A.den}{m:Nat}(h0:opd L x=some (c1,mpV A yA m))(hc:allP c1)(hd:ltB d X.n=true)
  (k:JK X (.ops true all l::r) QA ⟨(d,.lf (.optr nx []))::L,(nx,.cell (mpT A) (mpV A yA m))::H,nx+1⟩):JK X (.ops true all (⟨some d,.box t x,ty,ps,af,none⟩::l)::r) QA ⟨L,H,nx⟩:=JL.boxM h0 hc hd k
variable {md:Bool}
def z4h{n m:Nat}(h:n≤m):∀ {H:List (Nat×HO)},bdH n H→bdH m H
 |[],_=>trivial
 |(_,_)::_,hb=>⟨yxa hb.1 h,q1f h hb.2.1,z4h h hb.2.2⟩
def bdH_of{n:Nat}:∀ {H:List (Nat×HO)},(∀ p∈H,p.1<n∧p.2.bd n)→bdH n H
 |[],_=>trivial
 |p::r,h=>⟨(h p yyh).1,(h p yyh).2,bdH_of fun q hq=>h q (yyi _ hq)⟩
def bdH_rw{g:Nat→List e.den}(h:b+n≤k):bdH k (rwH eid e b n g):=bdH_of fun p hp=>by obtain⟨i,hi,rfl⟩:=yxc.1 hp;rw[yyr] at hi;exact⟨by show b+i<k;omega,trivial⟩
def z9y(hb:bdH n H):lk H n=none:=by
 cases h:lk H n with
 |none=>rfl
 |some o=>exact absurd (q0h hb _ _ (v7 h)).1 (Nat.lt_irrefl _)
def j0u{t:Ty}{xv:t.den}(d:Nat)(hd:lk L d=some (.lf (.optr m [])))(hL:subL L L')(bL:bdL m L')(bH:bdH m H)(k:JK X (.ops md all l::r) QA ⟨(d,.val (.ptr t) (some xv))::L',H,m⟩) :
  JK X (.ops md all l::r) QA ⟨L,(m,.cell t (.val t xv))::H,nx⟩:=JK.frzP m d (by rw[lk,if_pos rfl]) hd hL (subH.cons (subH.refl H) bH (yyo _)) (z9y bH) bL bH k
def JK.frzHC{c:Code}{t:Ty}{xv:t.den}(d:Nat)(hd:lk L d=some (.lf (.optr m [])))(hL:subL L L')(bL:bdL m L')(bH:bdH m H)(k:JK X (.code c::r) QA ⟨(d,.val (.ptr t) (some xv))::L',H,m⟩) :
  JK X (.code c::r) QA ⟨L,(m,.cell t (.val t xv))::H,nx⟩:=JK.frzPC m d (by rw[lk,if_pos rfl]) hd hL (subH.cons (subH.refl H) bH (yyo _)) (z9y bH) bL bH k
def SAT.toD{yA:A.den}(h1:SAT X M ρ ⟨L,(lm,.cell (mpT A) (mpV A yA m))::H,nx⟩ w)(bH:bdH lm H)(hm:m<nx) :
  ∃ M',SAT X M' ρ ⟨L,(lm,.dlk A yA m)::H,nx⟩ w∧M.le M'∧∀ b o,M b=some o→M' b=some o:=by
 have hl:lk ((lm,HO.cell (mpT A) (mpV A yA m))::H) lm=some (.cell (mpT A) (mpV A yA m)):=by rw[lk,if_pos rfl]
 have ha:lm<nx:=(h1.own lm _ hl).1;have hge:X.E.heap.size≤ρ.blk lm:=by obtain⟨_,_,h,_⟩:=y9 h1 hl;exact h
 obtain⟨e1,c,ty,c1,e2,e3,e4⟩:=own_mp h1 hl;obtain⟨M',g1,g2,g3,g4⟩:=h1.part (L':=L) (H':=H) (nx':=nx) hl rfl hge (subH.cons (subH.refl H) bH (yyo _)) (z9y bH) (z4h (Nat.le_of_lt ha) bH);have spl:∀ l o,lk ((lm,HO.dlk A yA m)::H) l=some o→(l=lm∧o=.dlk A yA m)∨lk H l=some o:=fun l o h=>by
  rw[lk] at h;by_cases e:lm=l
  ·rw[if_pos e] at h;injection h with h;exact .inl ⟨e.symm,h.symm⟩
  ·rw[if_neg e] at h;exact .inr h
 refine⟨M',⟨g1.below,g1.msub,g1.mnew,g1.mem,fun l o h=>?_,fun l l' o o' b h h' hb hd=>?_,fun l o b h hb=>?_⟩,g2,g3⟩
 ·rcases spl l o h with⟨rfl,rfl⟩|h
  ·exact⟨ha,hm,e1,c,ty,c1,g4.trans e2,Rep.mono g2 e3,e4⟩
  ·exact g1.own l o h
 ·rcases spl l o h with⟨rfl,rfl⟩|h
  ·cases hb
  ·rcases spl l' o' h' with⟨rfl,rfl⟩|h'
   ·cases hd
   ·exact g1.apart l l' o o' b h h' hb hd
 ·rcases spl l o h with⟨rfl,rfl⟩|h
  ·cases hb
  ·exact g1.notM l o b h hb
def REG.toM{M':Mem}(h2:REG X M ρ ⟨L,H,nx⟩ a)(hM:M.le M')(ha:∀ b o,M b=some o→M' b=some o):REG X M' ρ ⟨L,H',nx⟩ a:=by
 refine⟨h2.size,?_,fun d v hd=>?_⟩
 ·obtain⟨Ds,k1,k2,k3,k4⟩:=h2.defers;exact⟨Ds,k1,k2,fun D hD=>⟨(k3 D hD).1,ha _ _ (k3 D hD).2⟩,k4⟩
 ·have q:=h2.reg d v hd;exact⟨q.1,j6 hM (Env.upTo.refl ρ nx) q.1 q.2⟩
def JL.toD{A:Ty}{yA:A.den}{m lm:Nat}(bH:bdH lm H)(hm:m<nx)(k:JL X md all QA l ⟨L,(lm,.dlk A yA m)::H,nx⟩):JL X md all QA l ⟨L,(lm,.cell (mpT A) (mpV A yA m))::H,nx⟩:=by
 cases md
 ·intro M ρ a w h1 h2;obtain⟨M',e1,e2,e3⟩:=h1.toD bH hm;exact k _ ρ a w e1 (h2.toM e2 e3)
 ·intro M ρ a w h1 h2;obtain⟨M',e1,e2,e3⟩:=h1.toD bH hm;exact k _ ρ a w e1 (h2.toM e2 e3)
def JK.toD{A:Ty}{yA:A.den}{m lm:Nat}(bH:bdH lm H)(hm:m<nx)(k:JK X (.ops md all l::r) QA ⟨L,(lm,.dlk A yA m)::H,nx⟩):JK X (.ops md all l::r) QA ⟨L,(lm,.cell (mpT A) (mpV A yA m))::H,nx⟩:=JL.toD bH hm k
def z7f(h1:SAT X M ρ s w){yA:A.den}(hl:lk s.H lm=some (.dlk A yA m)):ρ.ty lm=mpT A∧∃ c ty c1,w.heap[ρ.blk lm]?=some (.cells c ty (0,0))∧M (ρ.blk lm)=some (.cells c ty (0,0))∧Rep M A yA c1∧c.toList=c1++[.map (some (ρ.blk m))]:=by obtain⟨e1,c,ty,c1,e2,e3,e4⟩:=y9 h1 hl;exact⟨e1,c,ty,c1,h1.mem _ _ e2,e2,e3,e4⟩
def j0j{yA:A.den}(d:Nat)(hd:lk L d=some (.lf (.optr lm [])))(hl:lk H lm=some (.dlk A yA m)):JW X ⟨(d,.val (.ptr (.cons A .nil)) (some (yA,())))::L,H,nx⟩ ⟨L,H,nx⟩:=by
 intro M ρ a w h1 h2;refine⟨ρ,h1.regs _,h2.size,h2.defers,fun d' v ha=>?_⟩;simp only[lk] at ha;by_cases e':d=d'
 ·subst e';rw[if_pos rfl] at ha;injection ha with ha;subst ha
  refine⟨trivial,?_⟩;obtain⟨_,c,ty,c1,_,e2,e3,e4⟩:=z7f h1 hl;have hv:=(h2.reg d _ hd).2;simp only[AV.rv,Leaf.at,yya,q5i] at hv;rw[← hv.1];have hs:=Rep.length e3;refine q2q.2 ⟨_,0,c,ty,(0,0),rfl,e2,?_⟩;rw[List.drop_zero,e4];have:(Ty.cons A .nil).size=A.size:=by simp[Ty.size]
  rw[this,← hs,List.take_left];simp only[Rep];exact⟨c1,[],by simp,e3,rfl⟩
 ·rw[if_neg e'] at ha;exact h2.reg d' v ha
def q42{yA:A.den}(hB:Brd X.P t tm)(hs:A.size=2)(hu:opd L x=some (c1,.lf (.optr lm [])))(hl:lk H lm=some (.dlk A yA m))(hc:allP c1) :
  RdY X ⟨some d,.fieldAddr t x 1,ty,ps,af,none⟩ ⟨L,H,nx⟩ (.lf (.optr lm [.fld 1])):=by
 intro M ρ a w h1 h2;obtain⟨hb,hv⟩:=q9 (s:=⟨L,H,nx⟩) hu hc h2;obtain⟨e1,_⟩:=z7f (s:=⟨L,H,nx⟩) h1 hl;have hx:=(v4.1 hv).1;simp only[Leaf.at,yya,q5i] at hx;have hk:=(z36 (ρ:=⟨fun _=>ρ.blk lm,fun _=>.nil,fun _=>Go.undef⟩) (n:=1) hB.fld (yxd 0)).2 w;refine⟨hb,.pointer (some ⟨ρ.blk lm,2,none⟩),v4.2 ⟨?_,rfl⟩,?_⟩
 ·simp only[Leaf.at,e1,Ty.off,hs]
 ·simp only[RV.cv] at hk;simp only[execOp,← hx,yye,hk,yyb,yyf]
def q7j{tb tm:TypeId}{yA:A.den}(hB:Brd X.P tb tm)(hs:A.size=2)(hu:opd L x=some (c1,.lf (.optr lm [.fld 1])))(hl:lk H lm=some (.dlk A yA m))(hm:m<nx)(hc:allP c1) :
  RdY X ⟨some d,.load tm x,ty,ps,af,none⟩ ⟨L,H,nx⟩ (.lf (.mp m)):=by
 intro M ρ a w h1 h2;obtain⟨hb,hv⟩:=q9 (s:=⟨L,H,nx⟩) hu hc h2;obtain⟨e1,c,ty',c1,e2,_,e3,e4⟩:=z7f (s:=⟨L,H,nx⟩) h1 hl;have hx:=(v4.1 hv).1;have ho:(mpT A).off [.fld 1]=2:=by simp only[Ty.off,hs]
 simp only[Leaf.at,yya,e1,ho] at hx;obtain⟨kk,ke,hu⟩:=hB.map;obtain⟨u,v,rfl⟩:=list2 ((Rep.length e3).trans hs);have ha:c[2]?=some (.map (some (ρ.blk m))):=by rw[← yxz,e4];rfl
 refine⟨hm,.map (some (ρ.blk m)),v4.2 ⟨rfl,rfl⟩,?_⟩;simp[execOp,Instr.loadAt,Instr.sureAddr,← hx,loadVar,isAgg,run_underlying hu,x4 e2,ha]
end Ox
namespace Go.Proofs.YtjecebccchhmhaaGreatDoor.Cb
open Go Go.RowKit Ox Ox.Gl
attribute [local irreducible] JC JL JK JW
def rwA(cs ms:List TwD)(c:Nat)(m:TwD)(k:Nat):List TwD:=((List.range k).map fun j:Nat=>((c:Int),m.1+(j:Int),())).filter fun r=>mkM cs ms r != 0
def lnA(m:TwD):Nat:=(m.2.1-m.1+1).toNat
def rwB(cs ms:List TwD)(c i:Nat):List TwD:=(ms.take i).flatMap fun m=>rwA cs ms c m (lnA m)
def rwC(cs ms:List TwD)(c:Nat):List TwD:=(List.range c).flatMap fun c=>rwB cs ms c ms.length
abbrev rwAll(cs ms:List TwD):List TwD:=rwC cs ms cs.length
def q8v(cs ms:List TwD)(c:Nat)(m:TwD)(k:Nat):rwA cs ms c m (k+1)=if mkM cs ms ((c:Int),m.1+(k:Int),()) != 0 then rwA cs ms c m k++[((c:Int),m.1+(k:Int),())] else rwA cs ms c m k:=by
 unfold rwA;rw[List.range_succ,yx0,List.filter_append];by_cases h:(mkM cs ms ((c:Int),m.1+(k:Int),()) != 0)=true
 ·rw[if_pos h];congr 1;show List.filter _ [((c:Int),m.1+(k:Int),())]=_;simp only[List.filter,h]
 ·rw[if_neg h];have h':(mkM cs ms ((c:Int),m.1+(k:Int),()) != 0)=false:=by simpa using h
  show _++List.filter _ [((c:Int),m.1+(k:Int),())]=_;simp only[List.filter,h',yxb]
def z28(cs ms:List TwD)(c:Nat)(h:i<ms.length):rwB cs ms c (i+1)=rwB cs ms c i++rwA cs ms c (ms.getD i (0,0,())) (lnA (ms.getD i (0,0,()))):=by unfold rwB;rw[yxg h,List.flatMap_append,j4 ms h];simp
def q8u(cs ms:List TwD)(c:Nat):rwC cs ms (c+1)=rwC cs ms c++rwB cs ms c ms.length:=by simp[rwC,List.range_succ]
def z6k(cs ms:List TwD)(c:Nat)(m:TwD):∀ {k n:Nat},k≤n→∃ t,rwA cs ms c m n=rwA cs ms c m k++t
 |k,0,h=>⟨[],by rw[show k=0 by omega];rfl⟩
 |k,n+1,h=>by
  rcases Nat.lt_or_ge n k with h1|h1
  ·exact⟨[],by rw[show k=n+1 by omega,yxb]⟩
  ·obtain⟨t,ht⟩:=z6k cs ms c m (k:=k) (n:=n) h1;rw[q8v];split
   ·exact⟨t++[((c:Int),m.1+(n:Int),())],by rw[ht,yxj]⟩
   ·exact⟨t,ht⟩
def rwB_pre(cs ms:List TwD)(c:Nat)(hi:i≤ms.length):∃ t,rwB cs ms c ms.length=rwB cs ms c i++t:=by refine⟨(ms.drop i).flatMap fun m=>rwA cs ms c m (lnA m),?_⟩;unfold rwB;rw[← List.flatMap_append,List.take_append_drop,yxr]
def z6j(cs ms:List TwD):∀ {c n:Nat},c≤n→∃ t,rwC cs ms n=rwC cs ms c++t
 |c,0,h=>⟨[],by rw[show c=0 by omega];rfl⟩
 |c,n+1,h=>by
  rcases Nat.lt_or_ge n c with h1|h1
  ·exact⟨[],by rw[show c=n+1 by omega,yxb]⟩
  ·obtain⟨t,ht⟩:=z6j cs ms (c:=c) (n:=n) h1;exact⟨t++rwB cs ms n ms.length,by rw[q8u,ht,yxj]⟩
def rw_next{cs ms:List TwD}(hc:c<cs.length)(hi:i<ms.length)(hk:k<lnA (ms.getD i (0,0,())))(h:(mkM cs ms ((c:Int),(ms.getD i (0,0,())).1+(k:Int),()) != 0)=true) :
  ∃ post,rwAll cs ms=(rwC cs ms c++rwB cs ms c i++rwA cs ms c (ms.getD i (0,0,())) k)++((c:Int),(ms.getD i (0,0,())).1+(k:Int),())::post:=by
 obtain⟨t1,h1⟩:=z6j cs ms (c:=c+1) (n:=cs.length) hc;obtain⟨t2,h2⟩:=rwB_pre cs ms c (i:=i+1) hi;obtain⟨t3,h3⟩:=z6k cs ms c (ms.getD i (0,0,())) (k:=k+1) (n:=lnA (ms.getD i (0,0,()))) hk;rw[q8v,if_pos h] at h3;rw[z28 cs ms c hi,h3] at h2;rw[q8u,h2] at h1;exact⟨t3++t2++t1,by rw[rwAll,h1];simp⟩
abbrev bpT:Ty:=.ptr (.cons shT .nil)
abbrev vBb(cs ms:List TwD):AV:=.val (.ptr bpT) (some (some (mkS cs ms,())))
section
variable {E:World}{Mx M0:Mem}{nX:Nat}{rdX:Option Nat}{up:Nat→Nat→Value}{dp lab N:Nat}{r:List Fr}{QA:Exit→S→Prop}
set_option maxRecDepth 20000 in
set_option maxHeartbeats 2000000 in
def rows_it{cs ms:List TwD}(hs:okSt cs ms)(K:List TwD→List (Nat×HO))(hh:lab<15010)(hK:∀ pre,bdH 15010 (K pre))
  (hY:∀ pre z post,rwAll cs ms=pre++z::post→YO ⟨Tryz.prog,tys,ets,mts,E,Mx,nX,rdX,up,dp⟩ 50 lab (.acons (vTw z) .anil) (K pre) 15010 true (K (pre++[z])) 15010)
  (k:∀ L,JK ⟨Tryz.prog,tys,ets,mts,E,M0,50,none,up,dp⟩ r QA ⟨L,K (rwAll cs ms),15010⟩) :
  JK ⟨Tryz.prog,tys,ets,mts,E,M0,50,none,up,dp⟩ (.code (lpC Tryz.f58.body)::.blk 0::r) QA ⟨[(0,.lf (.yld lab)),(1,vBb cs ms),(13,vI cs.length),(14,vI 0)],K [],15010⟩:=by
 have hy:=hs.m12;have h8:=hs.c8;refine JK.loop (fun c:Nat=>⟨[(0,.lf (.yld lab)),(1,vBb cs ms),(13,vI cs.length),(14,vI (c:Int))],K (rwC cs ms c),15010⟩) (fun c=>c≤cs.length) (fun c=>cs.length-c) 0 (yyw _) (JW.refl _) fun c hc=>?_;refine zK3 ?_;refine z5 rfl (fun hd=>?_) (fun hd=>?_)
 ·replace hd:=zC hd;have hv:c<cs.length:=by omega
  refine zK3 ?_;refine JK.loop (fun i:Nat=>⟨[(0,.lf (.yld lab)),(1,vBb cs ms),(13,vI cs.length),(14,vI (c:Int)),(3,vI (c:Int)),(21,.val (.slice twT) ms),(22,vI ms.length),(23,vI (i:Int))],K (rwC cs ms c++rwB cs ms c i),15010⟩) (fun i=>i≤ms.length) (fun i=>ms.length-i) 0 (yyw _) (by rw[show rwB cs ms c 0=[] from rfl,yxb];exact JW.same ⟨rfl,rfl,rfl,rfl,rfl,rfl,rfl,rfl,trivial⟩) fun i hi=>?_;have hu:i=ms.length→rwC cs ms c++rwB cs ms c i=rwC cs ms (c+1):=fun e=>by rw[e,← q8u]
  have hj:=z28 cs ms c (i:=i);have ha:=fun k=>rw_next (cs:=cs) (ms:=ms) (c:=c) (i:=i) (k:=k) hv;refine zK3 ?_;refine z5 rfl (fun he=>?_) (fun he=>?_)
  ·replace he:=zC he;have hr:i<ms.length:=by omega
   have hj:=hj hr;have ha:=fun k=>ha k hr;have hm:=hs.mo (ms.getD i (0,0,())) (by rw[j4 ms hr];exact yy9 hr);have e0:ms.getD (Int.toNat (i:Int)) twT.dflt=ms.getD i (0,0,()):=rfl;refine zK3 ?_;rw[e0];generalize ms.getD i (0,0,())=m at hj ha hm ⊢;obtain⟨ml,mh,mu⟩:=m;dsimp only at hm;obtain⟨T,hT⟩:∃ T:Nat,T=lnA (ml,mh,mu):=⟨_,rfl⟩;have hz:(T:Int)=mh-ml+1:=by rw[hT];unfold lnA;dsimp only;omega
   rw[← hT] at hj;refine JK.frzHC (L':=[(0,.lf (.yld lab)),(1,vBb cs ms),(13,vI cs.length),(14,vI (c:Int)),(3,vI (c:Int)),(21,.val (.slice twT) ms),(22,vI ms.length),(23,vI (i:Int)),(6,vI ml)]) 5 rfl ⟨rfl,rfl,rfl,rfl,rfl,rfl,rfl,rfl,rfl,trivial⟩ ⟨hh,trivial,trivial,trivial,trivial,trivial,trivial,trivial,trivial,trivial⟩ (hK _) ?_;refine JK.loop (fun k:Nat=>⟨[(5,.val (.ptr twT) (some (ml,mh,mu))),(0,.lf (.yld lab)),(1,vBb cs ms),(13,vI cs.length),(14,vI (c:Int)),(3,vI (c:Int)),(21,.val (.slice twT) ms),(22,vI ms.length),(23,vI (i:Int)),(6,vI (ml+(k:Int)))],K (rwC cs ms c++rwB cs ms c i++rwA cs ms c (ml,mh,mu) k),15010⟩) (fun k=>k≤T) (fun k=>T-k) 0 (yyw _) (by rw[show rwA cs ms c (ml,mh,mu) 0=[] from rfl,yxb];exact JW.same ⟨rfl,rfl,rfl,rfl,rfl,rfl,rfl,rfl,rfl,by show some (vI ml)=some (vI (ml+((0:Nat):Int)));rw[Int.natCast_zero,Int.add_zero],trivial⟩) fun k hk=>?_;have hA:=q8v cs ms c (ml,mh,mu) k;have ha:=ha k;rw[← hT] at ha;have c26:=fn26 hs.tookSh ((c:Int),ml+(k:Int),()) (by dsimp only;omega);refine zK3 ?_;refine z5 rfl (fun hf=>?_) (fun hf=>?_)
   ·replace hf:=zC hf;have hw:k<T:=by omega
    have ha:=ha hw;refine zK3 ?_;refine j0u (t:=twT) (xv:=((c:Int),ml+(k:Int),())) (L':=[(39,vTw ((c:Int),ml+(k:Int),())),(38,vBd cs ms),(5,.val (.ptr twT) (some (ml,mh,mu))),(0,.lf (.yld lab)),(1,vBb cs ms),(13,vI cs.length),(14,vI (c:Int)),(3,vI (c:Int)),(21,.val (.slice twT) ms),(22,vI ms.length),(23,vI (i:Int)),(6,vI (ml+(k:Int)))]) 7 rfl ⟨rfl,rfl,rfl,rfl,rfl,rfl,rfl,rfl,rfl,rfl,rfl,rfl,trivial⟩ ⟨trivial,trivial,trivial,hh,trivial,trivial,trivial,trivial,trivial,trivial,trivial,trivial,trivial⟩ (hK _) ?_;dsimp only at hA ha;generalize rwC cs ms c++rwB cs ms c i=pre0 at ha ⊢;have hl:ml+((k+1:Nat):Int)=ml+(k:Int)+1:=by omega
    generalize mkM cs ms ((c:Int),ml+(k:Int),())=q at hA ha c26
    (repeat (first|refine zs rfl ?_|refine zc rfl c26 rfl rfl ?_))
    have hg:((q:Int) != 0)=(q != 0):=by
     by_cases h:q=0
     ·subst h;rfl
     ·have h2:(q:Int)≠0:=by omega
      rw[bne_iff_ne.2 h2,bne_iff_ne.2 h]
    cases hb:(q != 0) with
    |false=>
     rw[hb,if_neg (by simp)] at hA;rw[hb] at hg
     (repeat (first|refine zs rfl ?_|refine zfl rfl (by show wantB true ((q:Int) != 0)=false;rw[hg];rfl) rfl ?_|refine q9s rfl (by show((q:Int) != 0)=false;exact hg) rfl rfl trivial trivial ?_))
     refine z5 rfl (fun h=>by cases h) (fun _=>?_);refine zK3 ?_;refine⟨k+1,?_,by omega,by omega⟩;dsimp only;rw[hA,hl];exact JW.same ⟨rfl,rfl,rfl,rfl,rfl,rfl,rfl,rfl,rfl,rfl,trivial⟩
    |true=>
     rw[hb,if_pos rfl] at hA;rw[hb] at hg;obtain⟨post,hp⟩:=ha hb;have y1:=hY _ _ _ hp
     (repeat (first|refine zs rfl ?_|refine zt rfl (by show wantB true ((q:Int) != 0)=true;rw[hg];rfl) ?_))
     refine z1h (X:=⟨Tryz.prog,tys,ets,mts,E,Mx,nX,rdX,up,dp⟩) [0,1,13,14,3,21,22,23,6,5,42] y1 rfl rfl rfl (by simp[stayL,stayB,svL,lk]) trivial ?_
     (repeat (first|refine zs rfl ?_|refine zt rfl (by show wantB true ((q:Int) != 0)=true;rw[hg];rfl) ?_))
     refine z5 rfl (fun h=>by revert h;cases ((q:Int) != 0)<;>simp) (fun _=>?_);refine zK3 ?_;refine⟨k+1,?_,by omega,by omega⟩;dsimp only;rw[hA,hl,yxj];exact JW.same ⟨rfl,rfl,rfl,rfl,rfl,rfl,rfl,rfl,rfl,rfl,trivial⟩
   ·replace hf:=zC hf;have:k=T:=by omega
    subst this;rw[yxj,← hj];refine zK3 ?_;exact⟨i+1,JW.same ⟨rfl,rfl,rfl,rfl,rfl,rfl,rfl,rfl,trivial⟩,by omega,by omega⟩
  ·replace he:=zC he;rw[hu (by omega)];refine zK3 ?_;exact⟨c+1,JW.same ⟨rfl,rfl,rfl,rfl,trivial⟩,by omega,by omega⟩
 ·replace hd:=zC hd;obtain rfl:c=cs.length:=by omega
  refine zK3 ?_;exact k _
end
end Go.Proofs.YtjecebccchhmhaaGreatDoor.Cb
namespace Ox
open Go Go.RowKit
variable {X:Ctx}{L L':List (Nat×AV)}{H H':List (Nat×HO)}{nx nx' d:Nat}
def lk_skip{o:α}{r:List (Nat×α)}(h:a≠d):lk ((a,o)::r) d=lk r d:=by rw[lk,if_neg h]
def del_no{α:Type}{n:Nat}:∀ {H:List (Nat×α)},(∀ p∈H,p.1≠n)→del H n=H
 |[],_=>rfl
 |(k,v)::r,h=>by rw[del,if_neg (h _ yyh),del_no fun p hp=>h p (yyi _ hp)]
def z18{n:Nat}:∀ {H:List (Nat×HO)},(∀ p∈H,∀ i L,p.2≠.fr i L)→noFr n H=true
 |[],_=>rfl
 |(k,o)::r,h=>by
  have hr:=z18 (n:=n) (H:=r) fun p hp=>h p (yyi _ hp);cases o with
  |fr i L=>exact absurd rfl (h (k,.fr i L) yyh i L)
  |_=>exact hr
variable{e:Ty}
def noFr_rw{g:Nat→List e.den}:noFr j (rwH eid e b n g)=true:=z18 fun p hp i L=>by obtain⟨k,_,rfl⟩:=yxc.1 hp;intro h;cases h
def noFr_rwD{g:Nat→List e.den}:noFr j (rwD eid e b n m g)=true:=z18 fun p hp i L=>by obtain⟨k,_,rfl⟩:=yxc.1 (yy6.1 hp).1;intro h;cases h
def outB_ne{F:List (Nat×HO)}(h:outB b n j F=true){l:Nat}(hl:b≤l∧l<b+n):lk F l=none:=by
 cases hf:lk F l with
 |none=>rfl
 |some o=>exact absurd hl (q4j h hf).1
def z0m(j:Nat){g:Nat→List e.den}(F:List (Nat×HO))(h:outB b n j F=true)(hm:m<n):lk (F++rwH eid e b n g) (b+m)=some (.sl eid e (g m)):=by rw[q6y,outB_ne h ⟨by omega,by omega⟩,z5d,if_pos ⟨by omega,by omega⟩,Nat.add_sub_cancel_left]
def app_rwD(j:Nat){g:Nat→List e.den}(F:List (Nat×HO))(h:outB b n j F=true)(hm:m<n)(l:Nat)(o:HO)(hl:lk (F++rwD eid e b n m g) l=some o):l≠b+m∧lk (F++rwH eid e b n g) l=some o:=by
 rw[q6y] at hl ⊢;cases hf:lk F l with
 |some o'=>rw[hf] at hl;refine⟨fun e=>(q4j h hf).1 ⟨by omega,by omega⟩,hl⟩
 |none=>
  rw[hf,lk_rwD] at hl;rw[z5d];by_cases h2:b≤l∧l<b+n∧l≠b+m
  ·rw[if_pos h2] at hl;exact⟨h2.2.2,by rw[if_pos ⟨h2.1,h2.2.1⟩];exact hl⟩
  ·rw[if_neg h2] at hl;cases hl
end Ox
namespace Go.Proofs.YtjecebccchhmhaaGreatDoor.Cb
open Go Go.RowKit Ox Ox.Gl
attribute [local irreducible] JC JL JK JW rwH
def z9o:Brd Tryz.prog 123 121:=Brd.of (by decide +kernel)
def mapG:MapT Tryz.prog (.int .u64) (.slice twT) 121 86 52:=.of Tryz.underlying121 (by decide +kernel)
def ltk(h:Nat.ble (a+1) b=true):a<b:=yyd h
abbrev HN(cs ms:List TwD)(c:Nat)(g:Nat→List TwD):List (Nat×HO):=(15001,.cell bpT (.lf (.optr 15000 [])))::(15000,.dlk shT (mkS cs ms) 1)::(1,.mrow (fun k=>10000+k) 4096 c)::(0,.cell shT (.val shT (mkS cs ms)))::rwH 47 twT 10000 4096 g
def bdN(cs ms:List TwD)(c:Nat)(g:Nat→List TwD):bdH 15002 (HN cs ms c g):=⟨ltk rfl,ltk rfl,ltk rfl,ltk rfl,ltk rfl,fun i hi=>by show 10000+i<15002;omega,ltk rfl,trivial,bdH_rw (yyd rfl)⟩
variable{cs ms pre:List TwD}{g:Nat→List TwD}
def delN(hk:15002≤k):del (HN cs ms c g) k=HN cs ms c g:=del_no fun p hp=>by have:=(q0h (bdN cs ms c g) p.1 p.2 hp).1;omega
def noN:noFr j (HN cs ms c g)=true:=by show noFr j (rwH 47 twT 10000 4096 g)=true;exact noFr_rw
def delF(hk:15002≤k){o:HO}:del ((k,o)::HN cs ms c g) k=HN cs ms c g:=by rw[del,if_pos rfl,delN hk]
def bd_fr{i d l n:Nat}(h:l<n):(HO.fr i [(d,.lf (.optr l []))]).bd n:=by intro p hp;rw[yy0.1 hp];exact h
def grp(cs ms:List TwD)(pre:List TwD)(k:Nat):List TwD:=pre.filter fun z=>mkM cs ms z==k
def grp_snoc(cs ms pre:List TwD)(z:TwD)(k:Nat):grp cs ms (pre++[z]) k=if k=mkM cs ms z then grp cs ms pre k++[z] else grp cs ms pre k:=by
 unfold grp;rw[List.filter_append];by_cases h:k=mkM cs ms z
 ·rw[if_pos h];congr 1;simp[List.filter,h]
 ·rw[if_neg h];have:(mkM cs ms z==k)=false:=by rw[beq_eq_false_iff_ne];exact fun e=>h e.symm
  simp[List.filter,this]
variable{z:TwD}
def rw_mem(h:z∈rwAll cs ms):(0≤z.1∧z.1<cs.length)∧mkM cs ms z≠0:=by unfold rwAll rwC rwB rwA at h;simp only[List.mem_flatMap,yy6,yxc,yyr] at h;obtain⟨c,hc,m,_,⟨k,_,rfl⟩,h2⟩:=h;refine⟨⟨by dsimp only;omega,by dsimp only;omega⟩,by simpa using h2⟩
def z2l{α β:Type}{f:α→List β}{n:Nat}:∀ {l:List α},(∀ x∈l,(f x).length≤n)→(l.flatMap f).length≤l.length*n
 |[],_=>by simp
 |x::l,h=>by rw[List.flatMap_cons,yyx,List.length_cons,yy8,Nat.one_mul];have h1:=h x yyh;have h2:=z2l (l:=l) fun y hy=>h y (yyi _ hy);omega
def rw_len(hs:okSh cs ms):(rwAll cs ms).length≤100000:=by
 have h1:∀ c,(rwB cs ms c ms.length).length≤12*501:=fun c=>by unfold rwB;rw[yxr];refine Nat.le_trans (z2l (n:=501) fun m hm=>?_) (yy1 _ hs.m12);unfold rwA;refine Nat.le_trans (yx5 _ _) ?_;rw[yx4,List.length_range];have:=hs.mo m hm;unfold lnA;omega
 have h2:(rwC cs ms cs.length).length≤(List.range cs.length).length*(12*501):=z2l fun c _=>h1 c;rw[List.length_range] at h2;have h3:=yy1 (12*501) hs.c8;show(rwC cs ms cs.length).length≤100000;omega
def mkM_lt(ha:ms.length≤12)(z:TwD):mkM cs ms z<4096:=by
 unfold mkM;split
 ·decide
 ·cases h:tth ms z.2.1 (cs.getD z.1.toNat (0,0,())).1 (cs.getD z.1.toNat (0,0,())).2.1.toNat with
  |none=>decide
  |some o=>exact z22 ha h
abbrev KP(a b:Code)(cs ms pre:List TwD):List (Nat×HO):=(15004,.fr 0 [(31,.lf (.yld 15003)),(3,.lf (.optr 15001 []))])::(15003,.loop .ready none #[12] a b 31 [(3,.lf (.optr 15001 []))])::HN cs ms pre.length (grp cs ms pre)
def bdP(a b:Code)(cs ms pre:List TwD):bdH 15010 (KP a b cs ms pre):=⟨ltk rfl,q8k ⟨ltk rfl,ltk rfl,trivial⟩,ltk rfl,q8j ⟨ltk rfl,trivial⟩,z4h (yyd rfl) (bdN cs ms _ _)⟩
abbrev FE(a b:Code)(cs ms:List TwD)(c:Nat):List (Nat×HO):=[(15004,.fr 0 [(31,.lf (.yld 15003)),(3,.lf (.optr 15001 []))]),(15003,.loop .ready none #[12] a b 31 [(3,.lf (.optr 15001 []))]),
 (15001,.cell bpT (.lf (.optr 15000 []))),(15000,.dlk shT (mkS cs ms) 1),(1,.mrow (fun k=>10000+k) 4096 c),(0,.cell shT (.val shT (mkS cs ms)))]
abbrev HX(a b:Code)(cs ms pre:List TwD)(z:TwD)(m:Nat):List (Nat×HO):=(15013,.sl 47 twT (grp cs ms pre m++[z]))::(15012,.sl 47 twT [z])::(15011,.cell twT (vTw z))::(15010,.fr 1 [(50,.lf (.yld 15003))])::(15004,.fr 0 [(31,.lf (.yld 15003)),(3,.lf (.optr 15001 []))])::(15003,.loop .busy none #[12] a b 31 [(3,.lf (.optr 15001 []))]) ::
 (15001,.cell bpT (.lf (.optr 15000 [])))::(15000,.dlk shT (mkS cs ms) 1)::(1,.mrow (fun k=>rnB 10000 4096 m 15013 (10000+k)) 4096 (pre.length+1))::(0,.cell shT (.val shT (mkS cs ms)))::rwD 47 twT 10000 4096 m (grp cs ms pre)
def noX{a b:Code}:noFr 1 (del (HX a b cs ms pre z m) 15010)=true:=by show noFr 1 (del (rwD 47 twT 10000 4096 m (grp cs ms pre)) 15010)=true;exact q1k noFr_rwD
def delP{a b:Code}:del (del (KP a b cs ms pre) 15004) 15003=HN cs ms pre.length (grp cs ms pre):=by show del (del (HN cs ms pre.length (grp cs ms pre)) 15004) 15003=_;rw[delN (yyd rfl),delN (yyd rfl)]
def rn_f(hm:m<4096)(k:Nat):rnB 10000 4096 m j (10000+k)=if k=m then j else 10000+k:=by
 by_cases h:k<4096
 ·rw[rnB_in ⟨by omega,by omega⟩];by_cases h2:k=m
  ·rw[if_pos (by omega),if_pos h2]
  ·rw[if_neg (by omega),if_neg h2]
 ·rw[z11 (by omega),if_neg (by omega)]
abbrev FB(a b:Code)(cs ms:List TwD)(c:Nat)(z:TwD):List (Nat×HO):=[(15011,.cell twT (vTw z)),(15010,.fr 1 [(50,.lf (.yld 15003))]),(15004,.fr 0 [(31,.lf (.yld 15003)),(3,.lf (.optr 15001 []))]),(15003,.loop .busy none #[12] a b 31 [(3,.lf (.optr 15001 []))]),
 (15001,.cell bpT (.lf (.optr 15000 []))),(15000,.dlk shT (mkS cs ms) 1),(1,.mrow (fun k=>10000+k) 4096 c),(0,.cell shT (.val shT (mkS cs ms)))]
set_option maxRecDepth 20000 in
set_option maxHeartbeats 2000000 in
def fn55(hs:okSt cs ms):Ox.Fn Tryz.prog 55 (.acons (.val shT (mkS cs ms)) .anil) (·=vBd cs ms):=by
 refine Ox.Fn.intro xok Tryz.func55 rfl Tryz.call55 (yyd rfl) (fun E M0 up=>?_);refine JK.start ?_;refine zK0 ?_;refine JK.makeR (fun k=>k) rfl ?_;refine q48 (JW.rows0 (eid:=47) (e:=twT) (nx':=15000) 10000 4096 (yyd rfl) (yyd rfl)) ?_;refine JK.bldM z9o rfl rfl rfl rfl trivial trivial rfl ?_;refine JK.boxM rfl trivial rfl ?_;refine JK.toD (H:=(1,.mrow (fun k=>10000+k) 4096 0)::(0,.cell shT (.val shT (mkS cs ms)))::rwH 47 twT 10000 4096 fun _=>[]) (lm:=15000) ⟨by decide,fun i hi=>by show 10000+i<15000;omega,by decide,trivial,bdH_rw (yyd rfl)⟩ (yyd rfl) ?_;refine zK0 ?_;refine q48 (s':=⟨[(10,.lf (.optr 15000 [])),(3,.lf (.optr 15001 []))],HN cs ms 0 (fun _=>[]),15002⟩) (JW.same ⟨rfl,rfl,trivial⟩) ?_;refine q48 (j0j 10 rfl rfl) ?_;refine z4s [3] rfl rfl trivial Tryz.func28 rfl Tryz.call28 (yyd rfl) rfl fun M1 up1=>?_;refine zs rfl ?_;refine zs rfl ?_;refine zs rfl ?_;refine j0u (m:=15003) (t:=bpT) (xv:=some (mkS cs ms,())) (L':=[]) 1 rfl trivial trivial ⟨ltk rfl,bd_fr (ltk rfl),z4h (yyd rfl) (bdN cs ms 0 _)⟩ ?_
 (repeat (first|refine zs rfl ?_|refine znf ?_|refine w7 ?_))
 refine q9a rfl rfl rfl (by rw[delF (yyd rfl)];exact noN) ?_;rw[delF (yyd rfl)];refine zK0 ?_;refine z1i [3] rfl rfl rfl Tryz.func58 rfl Tryz.call58 (yyd rfl) trivial fun M3 up3 a1 b1 hd he=>?_;refine zK0 ?_;refine q5x brd rfl rfl trivial ?_;refine zK0 ?_;refine q1u (s':=⟨[(0,.lf (.yld 15003)),(1,vBb cs ms),(13,vI cs.length),(14,vI 0)],KP a1 b1 cs ms [],15010⟩) (JW.low ⟨rfl,rfl,rfl,rfl,trivial⟩ (subH.refl _) ⟨ltk rfl,trivial,trivial,trivial,trivial⟩ (bdP a1 b1 cs ms [])) ?_;refine rows_it (Mx:=M3) (nX:=31) (rdX:=none) hs (fun pre=>KP a1 b1 cs ms pre) (ltk rfl) (bdP a1 b1 cs ms) ?_ ?_
 ·intro pre z post hb;obtain⟨hh,hj⟩:=rw_mem (cs:=cs) (ms:=ms) (z:=z) (by rw[hb];simp);have ha:=mkM_lt (cs:=cs) hs.m12 z;have hp:pre.length≤100000:=by have h1:=rw_len hs.tookSh;rw[hb,yyx] at h1;omega
  refine YO.intro 0 31 (ps:=#[12]) (assign:=a1) (body:=b1) (nO:=31) (LO:=[(3,.lf (.optr 15001 []))]) (L0:=[(12,vTw z),(3,.lf (.optr 15001 []))]) rfl rfl rfl ⟨15004,_,rfl,rfl⟩ ⟨15004,_,rfl,rfl⟩ fun M4 M5 up5 bl hup=>JK.start (q5b hd ?_);refine zK0 ?_;refine q23 (z4k rfl rfl rfl rfl (JK.start (q5b he ?_)));refine zK0 ?_;have c26:=fn26 hs.tookSh z hh;refine q48 (j0j 13 rfl rfl) ?_
  (repeat (first|refine zs rfl ?_|refine zg rfl rfl rfl ?_|refine w9 ?_|refine w7 ?_|refine zc rfl (c26) rfl rfl ?_|refine ze rfl (c26) rfl ?_|refine zk rfl rfl (fun _=>c26) rfl rfl ?_))
  have hg:=grp_snoc cs ms pre z;generalize mkM cs ms z=m at hg ha hj ⊢;refine q1u (s':=⟨[(5,vS64 m),(4,.lf (.optr 15011 [])),(3,.lf (.optr 15001 []))],FB a1 b1 cs ms pre.length z++rwH 47 twT 10000 4096 (grp cs ms pre),15012⟩) (JW.same ⟨rfl,rfl,rfl,trivial⟩) ?_;refine q5a xk (Tryz.f55.body.getD .skip) rfl 15 rfl ?_;refine q7 4 xk rfl rfl ?_;refine q7 9 xk rfl rfl ?_;refine j3 0 xk rfl rfl ?_;refine j3 1 xk rfl rfl ?_;refine q24 2 rfl (q42 z9o rfl rfl rfl trivial) ?_;refine q24 3 rfl (q7j z9o rfl rfl rfl (ltk rfl) trivial) ?_;refine j3 5 xk rfl rfl ?_;refine j3 6 xk rfl rfl ?_;refine q24 7 rfl (q42 z9o rfl rfl rfl trivial) ?_;refine q24 8 rfl (q7j z9o rfl rfl rfl (ltk rfl) trivial) ?_;refine q24 10 rfl (q6j mapG rfl rfl rfl ha (z0m 15013 (FB a1 b1 cs ms pre.length z) rfl ha) trivial trivial) ?_;refine j3 11 xk rfl rfl ?_;refine q0u 12 [] xk ?_ (BrF.one rfl rfl ?_ BrF.nil)
  ·(focus (repeat (first|exact StF.nil|refine q7h rfl rfl rfl ?_|refine q0i rfl (q42 z9o rfl rfl rfl trivial) rfl rfl ?_|refine q0i rfl (q7j z9o rfl rfl rfl (ltk rfl) trivial) rfl rfl ?_|refine q0i rfl (q6j mapG rfl rfl rfl ha (z0m 15013 (FB a1 b1 cs ms pre.length z) rfl ha) trivial trivial) rfl rfl ?_)))
  refine z1g xk rfl rfl ?_;refine w4 ?_;refine q0u 13 [] xk ?_ (BrF.one rfl rfl ?_ BrF.nil)
  ·(focus (repeat (first|exact StF.nil|refine q7h rfl rfl rfl ?_|refine q0i rfl (q42 z9o rfl rfl rfl trivial) rfl rfl ?_|refine q0i rfl (q7j z9o rfl rfl rfl (ltk rfl) trivial) rfl rfl ?_|refine q0i rfl (q6j mapG rfl rfl rfl ha (z0m 15013 ((15012,.sl 47 twT [z])::FB a1 b1 cs ms pre.length z) rfl ha) trivial trivial) rfl rfl ?_)))
  have hr:(grp cs ms pre m).length≤pre.length:=yx5 _ _;refine JL.appR (H':=(15012,.sl 47 twT [z])::FB a1 b1 cs ms pre.length z++rwD 47 twT 10000 4096 m (grp cs ms pre)) xk rfl rfl (by decide) rfl (z0m 15013 ((15012,.sl 47 twT [z])::FB a1 b1 cs ms pre.length z) rfl ha) rfl rfl (by show(grp cs ms pre m).length+1≤100000000;omega) trivial trivial trivial rfl (fun l o hl=>app_rwD 15013 ((15012,.sl 47 twT [z])::FB a1 b1 cs ms pre.length z) rfl ha l o hl) ?_;refine w4 ?_;refine q0u 14 [] xk ?_ (BrF.one rfl rfl ?_ BrF.nil)
  ·(focus (repeat (first|exact StF.nil|refine q7h rfl rfl rfl ?_|refine q0i rfl (q42 z9o rfl rfl rfl trivial) rfl rfl ?_|refine q0i rfl (q7j z9o rfl rfl rfl (ltk rfl) trivial) rfl rfl ?_|refine q0i rfl (q6j mapG rfl rfl rfl ha (z0m 15013 ((15012,.sl 47 twT [z])::FB a1 b1 cs ms pre.length z) rfl ha) trivial trivial) rfl rfl ?_)))
  refine JL.putR (f':=fun k=>rnB 10000 4096 m 15013 (10000+k)) mapG rfl rfl rfl rfl ha (fun k=>rn_f ha k) trivial trivial trivial ?_;refine w4 ?_;refine q0b xk StF.nil ?_;refine zK0 ?_;refine q23 (bodyQ.of (H:=HX a1 b1 cs ms pre z m) rfl rfl rfl rfl rfl noX ⟨rfl,?_⟩);refine JW.rows (front:=FE a1 b1 cs ms (pre++[z]).length) 10000 4096 m 15013 trivial ?_ trivial ?_ rfl rfl (yyd rfl) (.inr (yyd rfl)) (fun k hk=>?_)
  ·rw[show(pre++[z]).length=pre.length+1 by simp];exact⟨rfl,rfl,rfl,rfl,rfl,rfl,trivial⟩
  ·exact⟨ltk rfl,q8k ⟨ltk rfl,ltk rfl,trivial⟩,ltk rfl,q8j ⟨ltk rfl,trivial⟩,ltk rfl,ltk rfl,ltk rfl,ltk rfl,ltk rfl,fun i hi=>by show 10000+i<15010;omega,ltk rfl,trivial,trivial⟩
  ·show lk (updH (del (HX a1 b1 cs ms pre z m) 15010) 15003 _) _=_;rw[hg k];by_cases h:k=m
   ·rw[if_pos h,if_pos h,h];rfl
   ·rw[if_neg h,if_neg h,q2s _ _ _ _ rfl,if_neg (by omega),q3u,if_neg (by omega)]
    repeat rw[lk_skip (by omega)]
    rw[lk_rwD,if_pos ⟨by omega,by omega,by omega⟩,Nat.add_sub_cancel_left]
 ·intro L;refine q23 (rngQ.of (.inr rfl) rfl rfl rfl rfl rfl rfl (by rw[delP];exact noN) (z9d ?_));rw[delP];generalize (rwAll cs ms).length=c;generalize grp cs ms (rwAll cs ms)=g;refine zs rfl ?_;refine zs rfl ?_;refine zs rfl ?_;refine zs rfl ?_;refine q48 (j0j 30 rfl rfl) ?_;refine zK0 ?_;refine zR rfl trivial ?_;rfl
end Go.Proofs.YtjecebccchhmhaaGreatDoor.Cb
