/- Texts of the proof of the statement that the last text proves. -/
import Derived.Test.YtjecebccchhmhaaGreatDoorPtb
import Derived.Test.YtjecebccchhmhaaGreatDoorProg
import Init
import Derived.LoopNIn
set_option linter.all false
set_option maxHeartbeats 2000000
variable{cs1 cs2:List Prop}{pe0:Option Go.Code}{a r s:Int}{as0 assign bd0 body c:Go.Code}{elem et kt t t' ty:Go.TypeId}{sv v:Go.Value}{bl cap d i0 l lab lab0 lf m n n0 nI nO off p q:Nat}{f:Go.FuncId}{fo g x y:Go.Operand}{b empty ok:Bool}{k:Go.IntKind}{cs:Array Go.Value}{gg:Nat×Bool}{fn:Go.Func}{α:Type}{row:Option Nat}{i:Go.TypeInfo}
namespace Ox
open Go Go.RowKit
variable {X:Ctx}{s:S}{M:Mem}{ρ:Env}{a a':Act}{w w':World}{QA:Exit→S→Prop}{all l:List Oper}{o:Oper}
abbrev Ctx.at(X:Ctx)(M0:Mem)(n:Nat)(rd:Option Nat):Ctx:=⟨X.P,X.T,X.ET,X.MT,X.E,M0,n,rd,X.up,X.dp⟩
variable{M0 M':Mem}
def HO.ok_at{n:Nat}{rd:Option Nat}{l:Nat}{o:HO}(h:o.ok X M ρ l w):o.ok (X.at M0 n rd) M ρ l w:=by cases o<;>exact h
def HO.of_at{n:Nat}{rd:Option Nat}{l:Nat}{o:HO}(h:o.ok (X.at M0 n rd) M ρ l w):o.ok X M ρ l w:=by cases o<;>exact h
def SAT.at(h:SAT X M ρ s w){M0:Mem}(n:Nat)(rd:Option Nat)(L:List (Nat×AV))(h1:∀ b o,M0 b=some o→M b=some o)(h2:∀ b,b<X.E.heap.size→M b=M0 b):SAT (X.at M0 n rd) M ρ ⟨L,s.H,s.nx⟩ w:=⟨h.below,h1,h2,h.mem,fun l o hl=>let ⟨a,b,c⟩:=h.own l o hl;⟨a,b,HO.ok_at c⟩,h.apart,h.notM⟩
variable{ρ':Env}{s':S}
def SAT.since(h0:SAT X M ρ s w){n:Nat}{rd:Option Nat}(h:SAT (X.at M n rd) M' ρ' s' w')(L:List (Nat×AV)):SAT X M' ρ' ⟨L,s'.H,s'.nx⟩ w':=⟨h.below,fun b o hb=>h.msub b o (h0.msub b o hb),fun b hb=>(h.mnew b hb).trans (h0.mnew b hb),h.mem,fun l o hl=>let ⟨a,b,c⟩:=h.own l o hl;⟨a,b,HO.of_at c⟩,h.apart,h.notM⟩
def SAT.regs(h:SAT X M ρ s w)(L:List (Nat×AV)):SAT X M ρ ⟨L,s.H,s.nx⟩ w:=⟨h.below,h.msub,h.mnew,h.mem,h.own,h.apart,h.notM⟩
def stayB(lab:Nat):AV→Bool
 |.val _ _=>true
 |.lf (.yld l)=>Nat.beq l lab
 |_=>false
def stayL(lab:Nat):List (Nat×AV)→Bool
 |[]=>true
 |p::r=>stayB lab p.2&&stayL lab r
def z1i{lab:Nat}:∀ {L:List (Nat×AV)} {p:Nat×AV},stayL lab L=true→p∈L→stayB lab p.2=true
 |q::r,p,h,hp=>by
  simp only[stayL,yyc] at h;rcases yyk.1 hp with rfl|hp
  ·exact h.1
  ·exact z1i h.2 hp
variable{v az cap:AV}{u:Value}
def stay_rv{lab n:Nat}(h:stayB lab v=true)(hv:v.rv M ρ u)(hM:∀ b o,M b=some o→M' b=some o)(hρ:ρ'.blk lab=ρ.blk lab)(hl:lab<n):v.bd n∧v.rv M' ρ' u:=by
 cases v with
 |val t x=>exact⟨trivial,j5 (n:=0) (fun b c ty fz hb=>hM b _ hb) (fun l hl=>absurd hl (by omega)) trivial hv⟩
 |lf x=>
  cases x with
  |yld l=>have ha:l=lab:=yyg h;subst ha;refine⟨hl,?_⟩;rw[w9] at hv ⊢;simpa only[Leaf.at,hρ] using hv
  |_=>simp[stayB] at h
 |_=>simp[stayB] at h
def hasY(i n lab:Nat)(H:List (Nat×HO)):Prop:=∃ lf Lf,lk H lf=some (.fr i Lf)∧lk Lf n=some (.lf (.yld lab))
def hasY.blk{i n lab:Nat}(hy:hasY i n lab s.H)(h:SAT X M ρ s w):X.up i n=.func (.yield (ρ.blk lab)) #[] #[]∧lab<s.nx:=by obtain⟨lf,Lf,h1,h2⟩:=hy;obtain⟨_,e2,e3⟩:=h.own lf _ h1;simp only[HO.ok] at e3;have h3:=e3.2 n _ h2;rw[w9] at h3;simp only[Leaf.at,yya] at h3;exact⟨h3.1.symm,e2 _ (w5 h2)⟩
def foQ(X:Ctx)(rs:List ResultVar)(Q:AV→List (Nat×HO)→Nat→Prop)(e:Exit)(s':S):Prop:=(e=.ret∨e=.normal)∧∃ s'' r,JW X s'' s'∧resI s''.L rs=some r∧Q (resV r) s''.H s''.nx
variable{Q:AV→List (Nat×HO)→Nat→Prop}
def z38{rs:List ResultVar}(s'':S)(hw:JW X s'' s){r:AV}(hr:resI s''.L rs=some r)(h:Q (resV r) s''.H s''.nx):foQ X rs Q .ret s:=⟨.inl rfl,s'',r,hw,hr,h⟩
def FO(X:Ctx)(f:FuncId)(args:AV)(H:List (Nat×HO))(nx:Nat)(Q:AV→List (Nat×HO)→Nat→Prop):Prop:=∀ M0 M ρ w vs,SAT (X.at M0 0 none) M ρ ⟨[],H,nx⟩ w→args.bd nx→args.rvs M ρ vs→Calls X.P f vs.toArray w fun e w'=>∃ v r H' nx' M' ρ',e=.returned v∧SAT (X.at M 0 none) M' ρ' ⟨[],H',nx'⟩ w'∧r.bd nx'∧r.rv M' ρ' v∧Q r H' nx'
def REG.stay{i n lab:Nat}{Kp:List Nat}(h1:SAT X M ρ s w)(h2:REG X M ρ s a)(hy:hasY i n lab s.H)(hst:stayL lab (svL s.L Kp)=true){H':List (Nat×HO)}{nx':Nat}(h':SAT (X.at M 0 none) M' ρ' ⟨[],H',nx'⟩ w')
  (ha:hasY i n lab H'):REG X M' ρ' ⟨svL s.L Kp,H',nx'⟩ a:=by
 have e1:=hy.blk h1;have e2:=hasY.blk (X:=X.at M 0 none) (s:=⟨[],H',nx'⟩) ha h';have hb:ρ'.blk lab=ρ.blk lab:=by
  have:=e1.1.symm.trans e2.1;injection this with this
  injection this with this
  exact this.symm
 refine⟨h2.size,let ⟨Ds,d1,d2,d3,d4⟩:=h2.defers;⟨Ds,d1,d2,fun D hD=>⟨(d3 D hD).1,h'.msub _ _ (d3 D hD).2⟩,d4⟩,fun d v hd=>?_⟩;have hm:=w5 hd;exact stay_rv (z1i hst hm) (h2.reg _ _ (q76 hm)).2 h'.msub hb e2.2
variable{LO L0 Lf LO0:List (Nat×AV)}
def j2r(Kp:List Nat){ps:Array Tmp}{args:Array Operand}{tys:Array TypeId}{b0:Bool}{H':List (Nat×HO)}{nx':Nat}(i n:Nat)(hg:o.guard=none)
  (hk:o.op=.call {callee:=.value fo,args:=args,argTypes:=tys})
  (hu:opd s.L fo=some (cs1,.lf (.yld lab))) (ha:opds s.L args.toList=some (cs2,az)) (hc:allP (cs1++cs2)) (hl:lk s.H lab=some (.loop .ready none ps assign body nO LO))
  (hC:setPs ps.toList az LO=some L0) (hE:ps.toList.all (fun p=>Nat.blt p nO)=true) (hd:dstOk X.n o.dst) (hy:hasY i n lab s.H) (hF:hasY i n lab H') (hst:stayL lab (svL s.L Kp)=true)
  (h:∀ M0 up bl,up X.dp X.n=.func (.yield bl) #[] #[]→JC (X.sub M0 nO (some bl) up) assign
   (asgQ X nO fun s1=>JC (X.sub M0 nO (some bl) up) body (bodyQ X fun b _ H nx=>b=b0∧JW X ⟨[],H',nx'⟩ ⟨[],H,nx⟩) s1)
   ⟨L0,(s.nx,.fr X.dp [(X.n,.lf (.yld lab))])::s.H,s.nx+1⟩)
  (k:JL X true all QA l (putS o.dst (.val .bool b0) ⟨svL s.L Kp,H',nx'⟩)):JL X true all QA (o::l) s:=by
 intro M ρ a w h1 h2;rw[z7] at hc;obtain⟨hR,eu⟩:=z5 hu hc.1 h2;obtain⟨hG,ea⟩:=q0p h2 ha hc.2;have eu':a.eval fo=.func (.yield (ρ.blk lab)) #[] #[]:=by have:=(w9.1 eu).1;simp only[Leaf.at,yya] at this;exact this.symm
 obtain⟨fn,tm,D,e1,e2,e3,_⟩:=h1.turn (st':=.ready) (pe':=none) hl;obtain⟨p1,p2,p3⟩:=q2q hC (fun p hp=>by have:=yyx.1 hE p hp;simpa using this) hG ea e2 e3
 let bl:=ρ.blk lab
 let u:Nat→Value:=fun d=>if d=X.n then .func (.yield bl) #[] #[] else a.tmps.getD d Go.undef
 have hH:lab<s.nx:=(h1.own lab _ hl).1;have hJ:(AV.lf (.yld lab)).rv M ρ (.func (.yield bl) #[] #[]):=by rw[← eu'];exact eu
 have hK:∀ p∈[(X.n,AV.lf (.yld lab))],p.2.bd s.nx:=fun p hp=>by rw[yyp.1 hp];exact hH
 have hL:∀ d v,lk [(X.n,AV.lf (.yld lab))] d=some v→v.rv M ρ (u d):=fun d v hd=>by
  simp only[lk] at hd;by_cases e:X.n=d
  ·subst e;rw[if_pos rfl] at hd;injection hd with hd;subst hd
   show(AV.lf (.yld lab)).rv M ρ (if X.n=X.n then _ else _);rw[if_pos rfl];exact hJ
  ·rw[if_neg e] at hd;cases hd
 have hM:upd1 X.up X.dp u X.dp X.n=.func (.yield bl) #[] #[]:=by simp[upd1,u]
 have hs:=h1.enter (L0:=L0) (n:=nO) (rd:=some bl) hK hL;have hv:Array.map a.eval args=(List.map a.eval args.toList).toArray:=by rw[← yxc]
 refine z9 (j6 hg) ⟨fun f _=>q1x f,?_⟩;rw[q0d (by rw[hk];rfl)];have hw:(execOp a.eval o).run X.P w=.ok (.round bl fn ((ps.zip (List.map a.eval args.toList).toArray).foldl (fun t (q:Tmp×Value)=>t.setIfInBounds q.1 q.2) tm) assign body) w:=by obtain⟨dst,op,ty,pos,after,guard⟩:=o;simp only at hk;subst hk;have hy:=run_yield (P:=X.P) (args:=(List.map a.eval args.toList).toArray) e1 (by simp only[List.size_toArray];rw[p1];simp);simp only[execOp,resolve,eu',Deferred.ofValue,yye,yyf,yyb,invoke,hv];simpa using hy
 rw[hw,Oper.uponIn_round];refine⟨fun h=>(by cases h),roundIn_of_wpIn (q1x _) ?_⟩;have hh:(ps.zip (List.map a.eval args.toList).toArray).foldl (fun t (q:Tmp×Value)=>t.setIfInBounds q.1 q.2) tm=(ps.toList.zip (List.map a.eval args.toList)).foldl (fun t (q:Tmp×Value)=>t.setIfInBounds q.1 q.2) tm:=by rw[← Array.foldl_toList];simp
 rw[hh];have hr:REG (X.sub M nO (some bl) (upd1 X.up X.dp u)) M ρ ⟨L0,(s.nx,.fr X.dp [(X.n,.lf (.yld lab))])::s.H,s.nx+1⟩ {tmps:=(ps.toList.zip (List.map a.eval args.toList)).foldl (fun t (q:Tmp×Value)=>t.setIfInBounds q.1 q.2) tm,defers:=[]}:=⟨p2,⟨[],rfl,yxv,by simp,.inl rfl⟩,fun d v hd=>⟨j3 (yy5 _) (p3 d v hd).1,(p3 d v hd).2⟩⟩
 refine wpIn_mono (h M (upd1 X.up X.dp u) bl hM M ρ _ w hs hr) ?_;rintro e a1 w1 ⟨M1,ρ1,s1,k1,k2,rfl,l1,L1,lab1,ps1,as1,bd1,n1,LO1,q1,q2,q3,q4⟩;have hN:ρ1.blk lab1=bl:=by have:=(r0 k1 q1 _ _ q2).2;simp only[u,if_pos] at this;exact q6k this
 obtain⟨fn1,tm1,D1,f1,_,_,f4⟩:=k1.turn (st':=.busy) (pe':=none) q3;rw[hN] at f1 f4;refine⟨_,run_beginRound f1 rfl,wpIn_mono (q4 M1 ρ1 a1 _ f4 ⟨k2.size,k2.defers,k2.reg⟩) ?_⟩;rintro e2 a2 w2 ⟨M2,ρ2,s2,g1,g2,jmp,hj,l2,L2,lab2,st2,pe2,ps2,as2,bd2,n2,LO2,r1,r2,r3,r4,r5,r6⟩;have hP:ρ2.blk lab2=bl:=by have:=(r0 g1 r1 _ _ r2).2;simp only[u,if_pos] at this;exact q6k this
 have b1:=h1.leave g1 (H':=del s2.H l2) q1m r4 [];obtain⟨fn2,tm2,D2,t1,_,_,t4⟩:=b1.turn (st':=if jmp.isNone then .ready else .done) (pe':=jmp) r3;rw[hP] at t1 t4;have hB:∀ b o,M b=some o→M2 b=some o:=g1.msub;have hQ:REG X M2 ρ2 ⟨[],updH (del s2.H l2) lab2 (.loop (if jmp.isNone then .ready else .done) jmp ps2 as2 bd2 n2 LO2),s2.nx⟩ a:=⟨h2.size,let ⟨Ds,d1,d2,d3,d4⟩:=h2.defers;⟨Ds,d1,d2,fun D hD=>⟨(d3 D hD).1,hB _ _ (d3 D hD).2⟩,d4⟩,fun d v hd=>by simp[lk] at hd⟩
 obtain⟨ρ3,t5,_⟩:=r6 M2 ρ2 a _ t4 hQ;have t6:SAT (X.at M 0 none) M2 ρ3 ⟨[],H',nx'⟩ _:=t5.at 0 none [] hB fun b hb=>(t5.mnew b hb).trans (h1.mnew b hb).symm;have b2:=REG.stay h1 h2 hy hst t6 hF;have he:=run_endRound (P:=X.P) jmp t1;subst r5;have hA:=k M2 ρ3 (a.put o.dst (.bool jmp.isNone)) _ (z8 (t5.regs (svL s.L Kp))) (b2.putO hd.spec trivial (by rw[n5]));cases e2 with
 |normal=>simp only[jumpOf,yya] at hj;subst hj;exact⟨_,_,he,hA⟩
 |ret=>simp only[jumpOf,yya] at hj;subst hj;exact⟨_,_,he,hA⟩
 |exit id=>simp only[jumpOf,yya] at hj;subst hj;exact⟨_,_,he,hA⟩
 |_=>simp[jumpOf] at hj
def YO(X:Ctx)(n lab:Nat)(az:AV)(H:List (Nat×HO))(nx:Nat)(b:Bool)(H':List (Nat×HO))(nx':Nat):Prop:=
 ∀ M0 all QA (l:List Oper) (o:Oper) (fo:Operand) (args:Array Operand) (tys:Array TypeId) (cs1 cs2:List Prop) (L:List (Nat×AV)) (Kp:List Nat),o.guard=none→o.op=.call {callee:=.value fo,args:=args,argTypes:=tys} →
  opd L fo=some (cs1,.lf (.yld lab))→opds L args.toList=some (cs2,az)→allP (cs1++cs2)→dstOk n o.dst→stayL lab (svL L Kp)=true →
  JL (X.at M0 n none) true all QA l (putS o.dst (.val .bool b) ⟨svL L Kp,H',nx'⟩)→JL (X.at M0 n none) true all QA (o::l) ⟨L,H,nx⟩
def YO.intro{n lab:Nat}{H H':List (Nat×HO)}{nx nx':Nat}{ps:Array Tmp}(i m:Nat)(hl:lk H lab=some (.loop .ready none ps assign body nO LO))
  (hb:setPs ps.toList az LO=some L0) (he:ps.toList.all (fun p=>Nat.blt p nO)=true) (hy:hasY i m lab H) (hh:hasY i m lab H')
  (h:∀ M0 M1 up bl,up X.dp n=.func (.yield bl) #[] #[]→JC ((X.at M0 n none).sub M1 nO (some bl) up) assign
   (asgQ (X.at M0 n none) nO fun s1=>JC ((X.at M0 n none).sub M1 nO (some bl) up) body (bodyQ (X.at M0 n none) fun b' _ H'' nx''=>b'=b∧JW (X.at M0 n none) ⟨[],H',nx'⟩ ⟨[],H'',nx''⟩) s1)
   ⟨L0,(nx,.fr X.dp [(n,.lf (.yld lab))])::H,nx+1⟩):YO X n lab az H nx b H' nx':=
 fun M0 _ _ _ _ _ _ _ _ _ L Kp hg hj hu ha hc hd hst k=>j2r (X:=X.at M0 n none) (s:=⟨L,H,nx⟩) Kp i m hg hj hu ha hc hl hb he hd hy hh hst (fun M1 up bl hk=>h M0 M1 up bl hk) k
def q15(h:JW X s' s)(k:JL X true all QA l s'):JL X true all QA l s:=fun M ρ a w h1 h2=>by obtain⟨ρ',e1,e2⟩:=h M ρ a w h1 h2;exact k M ρ' a w e1 e2
variable{r:List Fr}
def j23{L:List (Nat×AV)}{H H':List (Nat×HO)}{nx nx' d:Nat}{ty:TypeId}{ps:String}{af:Array Edge}(Kp:List Nat){args:Array Operand}{tys:Array TypeId}
  (hY:YO X m lab az H nx b H' nx') (hu:opd L fo=some (cs1,.lf (.yld lab))) (ha:opds L args.toList=some (cs2,az)) (hd:ltB d m=true) (hst:stayL lab (svL L Kp)=true) (hc:allP (cs1++cs2))
  (k:JK (X.at M0 m none) (.ops true all l::r) QA ⟨(d,.val .bool b)::svL L Kp,H',nx'⟩) :
  JK (X.at M0 m none) (.ops true all (⟨some d,.call {callee:=.value fo,args:=args,argTypes:=tys},ty,ps,af,none⟩::l)::r) QA ⟨L,H,nx⟩:=
 hY M0 _ _ _ _ _ _ _ _ _ L Kp rfl rfl hu ha hc (j9 hd) hst k
variable{cs:List Prop}
def j26(Kp:List Nat){ps:Array Tmp}(hd:X.rd=none)(he:X.dp=0)(hu:opd s.L g=some (cs,.fn f .anil cap))
  (hf:X.P.funcs[f]?=some fn) (hb:fn.body=some c) (ha:∀ az w,(callFunc f az).run X.P w=.ok (.enter f az) w) (hn:argN (.acons .anil cap)≤fn.ntmps) (hc:allP cs)
  (h:∀ M up,JC (X.sub M fn.ntmps none up) c (rngQ X fn.results.toList (qq X r QA))
   ⟨argL (.acons (.lf (.yld s.nx)) cap) 0,(s.nx+1,.fr X.dp ((X.n,.lf (.yld s.nx))::svL s.L Kp))::(s.nx,.loop .ready none ps assign body X.n (svL s.L Kp))::s.H,s.nx+2⟩):JK X (.code (.rangeFunc g ps assign body)::r) QA s:=
 j3j Kp hd he hu hc hf hb ha hn h
variable{ps0:Array Tmp}
def j25(Kp:List Nat){ps:Array Tmp}{st0:LoopState}
  (hd:X.rd=some bl) (he:X.up i0 nI=.func (.yield bl) #[] #[]) (hg:lk s.H lf=some (.fr i0 Lf)) (hh:lk Lf nI=some (.lf (.yld lab0))) (hj:lk s.H lab0=some (.loop st0 pe0 ps0 as0 bd0 n0 LO0))
  (hu:opd s.L g=some (cs,.fn f .anil cap))
  (hf:X.P.funcs[f]?=some fn) (hb:fn.body=some c) (ha:∀ az w,(callFunc f az).run X.P w=.ok (.enter f az) w) (hn:argN (.acons .anil cap)≤fn.ntmps) (hc:allP cs)
  (h:∀ M up,JC (X.sub M fn.ntmps none up) c (rngQ X fn.results.toList (qq X r QA))
   ⟨argL (.acons (.lf (.yld s.nx)) cap) 0,(s.nx+1,.fr X.dp ((X.n,.lf (.yld s.nx))::svL s.L Kp))::(s.nx,.loop .ready none ps assign body X.n (svL s.L Kp))::s.H,s.nx+2⟩):JK X (.code (.rangeFunc g ps assign body)::r) QA s:=
 j3i Kp hd he hg hh hj hu hc hf hb ha hn h
def q18(h:JK X r QA s):endJ (qq X r QA) s none:=h
def j1i(h:QA .ret s):endJ (qq X r QA) s (some .ret):=q78 h
variable {P:Program}
variable {L:List (Nat×AV)}{H:List (Nat×HO)}{nx d n:Nat}{rr:List Fr}{om ok:Operand}{c1 c2:List Prop}{ty:TypeId}{ps:String}{af:Array Edge}{md:Bool}
section
variable {kt vt:Ty}{t kid vid:TypeId}{es:List (Ent kt vt)}{ms:Array MapEntry}{clk b:Nat}{x:kt.den}{cx:List Value}
def mHas(es:List (Ent kt vt))(x:kt.den):Bool:=(mIdx es x).isSome
def z1o(hT:MapT P kt vt t kid vid)(hb:w.heap[b]?=some (.map ms clk))(hm:MapRep M kt vt es ms.toList)(hx:Rep M kt x cx) :
  ∃ vc,Rep M vt (mGet es x vt.dflt) vc∧(Instr.lookup t (.map (some b)) (kt.wrap cx) true).run P w=.ok (.tuple #[vt.wrap vc,.bool (mHas es x)]) w:=by
 have hf:=q7w hT.key hx w es ms.toList hm;unfold Instr.lookup;simp only[yye,run_underlying hT.under,yyb,MapKept.run_getObj_map hb,yyf,q2e hT.key hx];unfold mGet mHas;cases hi:mIdx es x with
 |none=>rw[hi] at hf;refine⟨vt.zc,w7 M vt,?_⟩;simp[hf,q91 hT.val]
 |some j=>rw[hi] at hf;obtain⟨e,h1,h2⟩:=hf;obtain⟨e',h3,⟨_,⟨vc,h4,h5⟩,_⟩⟩:=hm.get h1;refine⟨vc,by simp only[h3,yxn,Option.getD_some];exact h4,?_⟩;simp[h2,h5]
def z7t(hT:MapT X.P kt vt t kid vid)(hu:opd L om=some (c1,.lf (.mp n)))(hl:lk H n=some (.map kt vt es clk))(hv:opd L ok=some (c2,.val kt x))(hd:ltB d X.n=true)(hc:allP (c1++c2))
  (k:JL X true all QA l ⟨(d,.tup (.acons (.val vt (mGet es x vt.dflt)) (.acons (.val .bool (mHas es x)) .anil)))::L,H,nx⟩):JL X true all QA (⟨some d,.lookup t om ok true,ty,ps,af,none⟩::l) ⟨L,H,nx⟩:=by
 rw[z7] at hc;refine q08 rfl rfl (j9 hd) (v:=.tup (.acons (.val vt (mGet es x vt.dflt)) (.acons (.val .bool (mHas es x)) .anil))) (s':=⟨L,H,nx⟩) (fun M ρ a w h1 h2=>?_) k;obtain⟨ms,hb,hm⟩:=q2s h1 hl;obtain⟨cx,hx,ha⟩:=o8 hv hc.2 h2;obtain⟨vc,r1,r2⟩:=z1o hT hb hm hx;refine⟨ρ,w,_,?_,Env.upTo.refl _ _,yyl _,rfl,h1,⟨trivial,trivial,trivial⟩,.inl ⟨.tuple #[vt.wrap vc,.bool (mHas es x)],rfl,?_⟩⟩
 ·simp only[execOp,q2t hu hc.1 h2,ha,yye,r2,yyb,yyf]
 ·simp only[AV.rv,AV.rvs];exact⟨[vt.wrap vc,.bool (mHas es x)],⟨vt.wrap vc,[.bool (mHas es x)],⟨vc,r1,rfl⟩,⟨.bool (mHas es x),[],⟨[.bool (mHas es x)],by simp only[Rep],rfl⟩,rfl,rfl⟩,rfl⟩,rfl⟩
def z7v(hT:MapT X.P kt vt t kid vid)(hu:opd L om=some (c1,.lf (.mp n)))(hl:lk H n=some (.map kt vt es clk))(hv:opd L ok=some (c2,.val kt x))(hd:ltB d X.n=true)
  (k:JK X (.ops true all l::rr) QA ⟨(d,.tup (.acons (.val vt (mGet es x vt.dflt)) (.acons (.val .bool (mHas es x)) .anil)))::L,H,nx⟩) (hc:allP (c1++c2)):JK X (.ops true all (⟨some d,.lookup t om ok true,ty,ps,af,none⟩::l)::rr) QA ⟨L,H,nx⟩:=
 z7t hT hu hl hv hd hc k
end
variable {ty2:TypeId}{ps2:String}{af2:Array Edge}
def funB(P:Program)(t:TypeId):Bool:=match P.info? t with
 |some i=>(match i.zero with|some .nilFunc=>true|_=>false)&&(i.size==1)&&(match P.underlying t with|some (.func ..)=>true|_=>false)
 |none=>false
structure FunT(P:Program)(t:TypeId):Prop where
 zero:∀ w,(zeroValue t).run P w=.ok .nilFunc w
 size:∀ w,(Go.sizeOf t).run P w=.ok 1 w
 agg:∀ w,(isAgg t).run P w=.ok false w
def FunT.of(h:funB P t=true):FunT P t:=by
 unfold funB at h;cases hi:P.info? t with
 |none=>rw[hi] at h;cases h
 |some i=>
  rw[hi] at h;simp only[yyc,beq_iff_eq] at h;obtain⟨⟨h1,h2⟩,h3⟩:=h;refine⟨fun w=>?_,fun w=>?_,fun w=>?_⟩
  ·split at h1
   ·rename_i hz;simp[zeroValue,typeInfo,hi,hz]
   ·cases h1
  ·simp[Go.sizeOf,typeInfo,hi,h2]
  ·split at h3
   ·rename_i hu;simp[isAgg,run_underlying hu]
   ·cases h3
def AV.fnB:AV→Bool
 |.fn ..=>true
 |_=>false
def fnB_rv(h:v.fnB=true)(hu:v.rv M ρ u):∃ f fs ks,u=.func (.func f) fs ks:=by
 cases v with
 |fn f x y=>simp only[AV.rv] at hu;obtain⟨fs,ks,_,_,rfl⟩:=hu;exact⟨_,_,_,rfl⟩
 |_=>simp[AV.fnB] at h
def z3o(a:Array α)(x:α)(f:α→α):(a.push x).modify a.size f=a.push (f x):=by
 apply Array.ext
 ·simp
 ·intro i h1 h2;rw[Array.getElem_modify];have hi:i<a.size+1:=by simpa using h2
  by_cases e:a.size=i
  ·subst e;simp
  ·rw[if_neg e,Array.getElem_push_lt (by omega),Array.getElem_push_lt (by omega)]
def j0k(hF:funB X.P t=true)(hu:opd s.L x=some (c1,.pfn v))(hc:allP c1):∀ {M ρ a w0} {d:Option Nat} {gu:Option (Nat×Bool)},SAT X M ρ s w0→REG X M ρ s a→v.bd s.nx∧∃ z,v.rv M ρ z∧∀ w1,Below w0.heap.size w0 w1→(execOp a.eval ⟨d,.load t x,ty,ps,af,gu⟩).run X.P w1=.ok (.value z) w1:=by
 have hf:=FunT.of hF;intro M ρ a w0 d gu h1 h2;obtain⟨hb,hr⟩:=z5 hu hc h2;simp only[AV.rv] at hr;obtain⟨b,fv,ty',fz,e1,e2,e3⟩:=hr;refine⟨hb,fv,e3,fun w1 hw=>?_⟩;have hm:=h1.mem b _ e2;have ha:=(yyi.1 hm).1;have hd:w1.heap[b]?=some (.cells #[fv] ty' fz):=by rw[hw.block b ha];exact hm
 have h3:(loadVar t ⟨b,0,none⟩).run X.P w1=.ok fv w1:=by unfold loadVar;simp only[yye,hf.agg,yyb];simp[u6 hd]
 simp only[execOp,e1,Instr.loadAt,Instr.sureAddr,yye,yyf,yyb,h3]
def JL.ldF(hF:funB X.P t=true)(hu:opd s.L x=some (c1,.pfn v))(hc:allP c1)(hd:ltB d X.n=true)(k:JL X md all QA l ⟨(d,v)::s.L,s.H,s.nx⟩):JL X md all QA (⟨some d,.load t x,ty,ps,af,none⟩::l) s:=by
 cases md
 ·intro M ρ a w0 h1 h2;obtain⟨hb,z,hz,hr⟩:=j0k (d:=some d) (gu:=none) (ty:=ty) (ps:=ps) (af:=af) hF hu hc h1 h2;simp only[wpQuiet,Region.wanted,if_true];refine⟨z,fun w hw=>?_,k M ρ _ w0 (h1.regs _) (h2.putO (d:=some d) (dstOk.spec (j9 hd)) hb hz)⟩;unfold Oper.quietAt;rw[hr w hw];exact⟨rfl,rfl⟩
 ·intro M ρ a w h1 h2;obtain⟨hb,z,hz,hr⟩:=j0k (d:=some d) (gu:=none) (ty:=ty) (ps:=ps) (af:=af) hF hu hc h1 h2;exact z9 (j6 rfl) (w3 rfl (hr w (Below.refl _ _)) (k M ρ _ w (h1.regs _) (h2.putO (d:=some d) (dstOk.spec (j9 hd)) hb hz)))
def JK.ldF{t:TypeId}{x:Operand}{v:AV}(hF:funB X.P t=true)(hu:opd L x=some (c1,.pfn v))(hd:ltB d X.n=true)(hc:allP c1)(k:JK X (.ops md all l::rr) QA ⟨(d,v)::L,H,nx⟩):JK X (.ops md all (⟨some d,.load t x,ty,ps,af,none⟩::l)::rr) QA ⟨L,H,nx⟩:=JL.ldF (s:=⟨L,H,nx⟩) hF hu hc hd k
def JL.vqg{g:Bool}(hg:gOf all s.L o.guard=some g)(hn:notDef o.op=true)(hd:dstOk X.n o.dst)(hb:v.bd s.nx)(h:g=true→∀ M ρ a w,SAT X M ρ s w→REG X M ρ s a→∃ z,v.rv M ρ z∧∀ w1,(execOp a.eval o).run X.P w1=.ok (.value z) w1)
  (k:JL X md all QA l (putS o.dst (.gd g v) s)):JL X md all QA (o::l) s:=by
 cases md
 ·intro M ρ a w0 h1 h2;have hw:=u7 hg h2;simp only[wpQuiet,hw];cases g with
  |true=>obtain⟨z,hz,hr⟩:=h rfl M ρ a w0 h1 h2;simp only[if_true];exact⟨z,fun w hw=>by unfold Oper.quietAt;rw[hr w];exact⟨rfl,rfl⟩,k M ρ _ w0 (z8 h1) (h2.putO hd.spec (by exact fun _=>hb) (by simp only[AV.rv];exact⟨fun _=>hz,fun h=>(by cases h)⟩))⟩
  |false=>simp only[yys,if_false];exact k M ρ _ w0 (z8 h1) (h2.putO hd.spec (by exact fun h=>(by cases h)) (by simp[AV.rv]))
 ·intro M ρ a w h1 h2;have hw:=u7 hg h2;cases g with
  |true=>obtain⟨z,hz,hr⟩:=h rfl M ρ a w h1 h2;refine z9 hw (w3 hn (hr w) ?_);exact k M ρ _ w (z8 h1) (h2.putO hd.spec (by exact fun _=>hb) (by simp only[AV.rv];exact⟨fun _=>hz,fun h=>(by cases h)⟩))
  |false=>refine o7 hw ?_;exact k M ρ _ w (z8 h1) (h2.putO hd.spec (by exact fun h=>(by cases h)) (by simp[AV.rv]))
section
variable {kt:Ty}{t:TypeId}{om ok:Operand}{c2:List Prop}{x y:kt.den}{dd:Nat}{g:Bool}{gg:Nat×Bool}
def JK.neQg(hK:EqT X.P kt t)(hg:gOf all L (some gg)=some g)(hu:opd L om=some (c1,.val kt x))(hv:opd L ok=some (c2,.val kt y))(hd:ltB dd X.n=true)(hc:g=true→allP (c1++c2)){tt:TypeId}
  (k:JK X (.ops md all l::rr) QA ⟨(dd,.gd g (.val .bool (!kt.eqB x y)))::L,H,nx⟩):JK X (.ops md all (⟨some dd,.binOp .neq t om ok tt,ty,ps,af,some gg⟩::l)::rr) QA ⟨L,H,nx⟩:=by
 refine JL.vqg (o:=⟨some dd,.binOp .neq t om ok tt,ty,ps,af,some gg⟩) (s:=⟨L,H,nx⟩) (v:=.val .bool (!kt.eqB x y)) hg rfl (j9 hd) trivial (fun hb M ρ a w h1 h2=>⟨.bool (!kt.eqB x y),n5.2 rfl,fun w1=>?_⟩) k;have ha:=hc hb;rw[z7] at ha;obtain⟨cx,hx,he⟩:=o8 (vt:=kt) hu ha.1 h2;obtain⟨cy,hy,hh⟩:=o8 (vt:=kt) hv ha.2 h2;obtain⟨r,hr,hq⟩:=q57 hK.key.ty hK.key.ok hK.key.dep hK.key.flat hx hy w1;have hj:r=kt.eqB x y:=by rw[yxb,y7];exact hq
 rw[y4 hK.ag,y4 hK.ag] at hr;simp only[execOp,he,hh,y4 hK.ag,yye,run_eqGuard_agg w1 _ _ _ _ _ _ hK.gt,yyb,binOp,hr,yyf,hj]
end
variable {L':List (Nat×AV)}{H':List (Nat×HO)}{nx':Nat}
def subL(L:List (Nat×AV)):List (Nat×AV)→Prop
 |[]=>True
 |(d,v)::r=>lk L d=some v∧subL L r
def q3b:∀ {r:List (Nat×AV)},subL L r→∀ d v,lk r d=some v→lk L d=some v
 |[],_,d,v,h=>by simp[lk] at h
 |(k,u)::r,hc,d,v,h=>by
  simp only[lk] at h;by_cases e:k=d
  ·subst e;rw[if_pos rfl] at h;injection h with h;subst h;exact hc.1
  ·rw[if_neg e] at h;exact q3b hc.2 d v h
def subH(H H':List (Nat×HO)):Prop:=∀ m o,lk H' m=some o→lk H m=some o
def subH.refl(H:List (Nat×HO)):subH H H:=fun _ _ h=>h
def SAT.low(h1:SAT X M ρ ⟨L,H,nx⟩ w)(hH:subH H H')(bH:bdH nx' H'):SAT X M ρ ⟨L',H',nx'⟩ w:=
 ⟨h1.below,h1.msub,h1.mnew,h1.mem,fun l o hl=>let ⟨e1,e2⟩:=g8 bH l o (w5 hl);⟨e1,e2,(h1.own l o (hH l o hl)).2.2⟩,
  fun l l' o o' b k1 k2=>h1.apart l l' o o' b (hH _ _ k1) (hH _ _ k2),fun l o b k=>h1.notM l o b (hH _ _ k)⟩
def REG.low(h2:REG X M ρ ⟨L,H,nx⟩ a)(hL:subL L L')(bL:bdL nx' L'):REG X M ρ ⟨L',H',nx'⟩ a:=⟨h2.size,h2.defers,fun d v hd=>⟨q1i bL d v (w5 hd),(h2.reg d v (q3b hL d v hd)).2⟩⟩
def JW.low(hL:subL L L')(hH:subH H H')(bL:bdL nx' L')(bH:bdH nx' H'):JW X ⟨L',H',nx'⟩ ⟨L,H,nx⟩:=fun M ρ a w h1 h2=>⟨ρ,h1.low hH bH,h2.low hL bL⟩
def JW.same(hL:subL L L'):JW X ⟨L',H,nx⟩ ⟨L,H,nx⟩:=fun M ρ a w h1 h2=>⟨ρ,h1.regs L',h2.size,h2.defers,fun d v hd=>h2.reg d v (q3b hL d v hd)⟩
def JW.refl(s:S):JW X s s:=fun M ρ a w h1 h2=>⟨ρ,h1,h2⟩
def JW.trans{s1 s2 s3:S}(h:JW X s1 s2)(k:JW X s2 s3):JW X s1 s3:=fun M ρ a w h1 h2=>by obtain⟨ρ1,e1,e2⟩:=k M ρ a w h1 h2;exact h M ρ1 a w e1 e2
def SAT.frzG{o0:HO}{v0 v1:AV}(h1:SAT X M ρ ⟨L,H,nx⟩ w)(h2:REG X M ρ ⟨L,H,nx⟩ a)(hl:lk H m=some o0)(hd:lk L d=some v0)(hf:Ox.frz [m] [d] ⟨[(d,v0)],[(m,o0)],nx⟩=some ([],⟨[(d,v1)],[],nx⟩))
  (hv:v1.bd nx') (hL:subL L L') (hH:subH H H') (hm:lk H' m=none) (bL:bdL nx' L') (bH:bdH nx' H') :
  ∃ M',SAT X M' ρ ⟨(d,v1)::L',H',nx'⟩ w∧REG X M' ρ ⟨(d,v1)::L',H',nx'⟩ a:=by
 have one:∀ l' o',lk [(m,o0)] l'=some o'→l'=m∧o'=o0:=fun l' o' h=>by
  simp only[lk] at h;by_cases e:m=l'
  ·rw[if_pos e] at h;injection h with h;exact⟨e.symm,h.symm⟩
  ·rw[if_neg e] at h;cases h
 have g1:SAT X M ρ ⟨[(d,v0)],[(m,o0)],nx⟩ w:=by
  refine⟨h1.below,h1.msub,h1.mnew,h1.mem,fun l o hb=>?_,fun l l' o o' b k1 k2 _ _=>?_,fun l o b k1=>?_⟩
  ·obtain⟨rfl,rfl⟩:=one _ _ hb;exact h1.own _ _ hl
  ·obtain⟨rfl,_⟩:=one _ _ k1;exact(one _ _ k2).1.symm
  ·obtain⟨rfl,rfl⟩:=one _ _ k1;exact h1.notM _ _ b hl
 have g2:REG X M ρ ⟨[(d,v0)],[(m,o0)],nx⟩ a:=⟨h2.size,h2.defers,fun d' v ha=>by
   simp only[lk] at ha;by_cases e:d=d'
   ·subst e;rw[if_pos rfl] at ha;injection ha with ha;subst ha;exact h2.reg _ _ hd
   ·rw[if_neg e] at ha;(cases ha)⟩
 have hp:pickF [(m,o0)] [m]=[(m,o0)]:=by simp[pickF]
 obtain⟨f1,f2⟩:=q53 hf trivial g1 g2;have he:=q6x (F:=[m]) g1;refine⟨_,⟨f1.below,f1.msub,f1.mnew,f1.mem,fun l o hb=>?_,fun l l' o o' b k1 k2=>h1.apart l l' o o' b (hH _ _ k1) (hH _ _ k2),fun l o b k1 k2=>?_⟩,f2.size,f2.defers,fun d' v ha=>?_⟩
 ·obtain⟨e1,e2⟩:=g8 bH l o (w5 hb);obtain⟨q1,q2,q3⟩:=h1.own l o (hH l o hb);exact⟨e1,e2,t9 he (Env.upTo.refl ρ nx) q1 q2 q3⟩
 ·unfold frzM;split
  ·rename_i h;obtain⟨l',o',r1,r2⟩:=h;change lk (pickF [(m,o0)] [m]) l'=some o' at r1;rw[hp] at r1;simp only[lk] at r1;by_cases e':m=l'
   ·subst e';rw[if_pos rfl] at r1;injection r1 with r1;subst r1
    have:=h1.apart l m o _ b (hH _ _ k1) hl k2 r2;subst this;rw[hm] at k1;cases k1
   ·rw[if_neg e'] at r1;cases r1
  ·exact h1.notM l o b (hH _ _ k1) k2
 ·simp only[lk] at ha;by_cases e':d=d'
  ·subst e';rw[if_pos rfl] at ha;injection ha with ha;subst ha
   have:=f2.reg d v1 (by simp[lk]);exact⟨hv,this.2⟩
  ·rw[if_neg e'] at ha;have q:=h2.reg d' v (q3b hL d' v ha);exact⟨q1i bL d' v (w5 ha),j5 he (Env.upTo.refl ρ nx) q.1 q.2⟩
def j02{eid:TypeId}{e:Ty}{xs:List e.den}:Ox.frz [m] [d] ⟨[(d,.lf (.osl m))],[(m,.sl eid e xs)],nx⟩=some ([],⟨[(d,.val (.slice e) xs)],[],nx⟩):=by
 have hc:([m].contains m)=true:=by simp
 have hp:pickF [(m,HO.sl eid e xs)] [m]=[(m,.sl eid e xs)]:=by simp[pickF]
 have hb:lk [(m,HO.sl eid e xs)] m=some (.sl eid e xs):=by simp[lk]
 have ha:castK (.slice e) (.slice e) xs (fun y=>some (([]:List Prop),y))=some ([],xs):=by unfold castK;rw[dif_pos rfl]
 have ht:toK [(m,HO.sl eid e xs)] 8 (.slice e) (.lf (.osl m)) (fun c y=>some (c,y))=some ([],xs):=by simp only[toK,hb];exact ha
 simp only[Ox.frz,hp,fzR,fzH,lk,if_true,fzV,fzL,hc,hb,ht,yxn,Option.bind_some,yxj]
def z5y{t:Ty}{x:t.den}:Ox.frz [m] [d] ⟨[(d,.lf (.optr m []))],[(m,.cell t (.val t x))],nx⟩=some ([],⟨[(d,.val (.ptr t) (some x))],[],nx⟩):=by
 have hc:([m].contains m)=true:=by simp
 have hp:pickF [(m,HO.cell t (.val t x))] [m]=[(m,.cell t (.val t x))]:=by simp[pickF]
 have hb:lk [(m,HO.cell t (.val t x))] m=some (.cell t (.val t x)):=by simp[lk]
 have ha:castK t t x (fun y=>some (([]:List Prop),(some y:Option t.den)))=some ([],some x):=by unfold castK;rw[dif_pos rfl]
 have hs:t.sub []=some t:=by cases t<;>rfl
 have hg:getT t (.val t x) []=some ([],.val t x):=by cases t<;>rfl
 have ht:toK [(m,HO.cell t (.val t x))] 8 (.ptr t) (.lf (.optr m [])) (fun c y=>some (c,y))=some ([],some x):=by simp only[toK,hb,hg,confB,decide_true,if_true,List.nil_append];exact ha
 simp only[Ox.frz,hp,fzR,fzH,lk,if_true,fzV,fzL,hc,hb,hs,ht,yxn,Option.bind_some,yxj]
def JL.frzG{m d:Nat}{o0:HO}{v0 v1:AV}(hl:lk H m=some o0)(hd:lk L d=some v0)(hf:Ox.frz [m] [d] ⟨[(d,v0)],[(m,o0)],nx⟩=some ([],⟨[(d,v1)],[],nx⟩))(hv:v1.bd nx')(hL:subL L L')(hH:subH H H')(hm:lk H' m=none)(bL:bdL nx' L')(bH:bdH nx' H')
  (k:JL X md all QA l ⟨(d,v1)::L',H',nx'⟩):JL X md all QA l ⟨L,H,nx⟩:=by
 cases md
 ·intro M ρ a w h1 h2;obtain⟨M',e1,e2⟩:=h1.frzG h2 hl hd hf hv hL hH hm bL bH;exact k _ ρ a w e1 e2
 ·intro M ρ a w h1 h2;obtain⟨M',e1,e2⟩:=h1.frzG h2 hl hd hf hv hL hH hm bL bH;exact k _ ρ a w e1 e2
def JC.frzG{c:Code}{m d:Nat}{o0:HO}{v0 v1:AV}(hl:lk H m=some o0)(hd:lk L d=some v0)(hf:Ox.frz [m] [d] ⟨[(d,v0)],[(m,o0)],nx⟩=some ([],⟨[(d,v1)],[],nx⟩))(hv:v1.bd nx')(hL:subL L L')(hH:subH H H')(hm:lk H' m=none)(bL:bdL nx' L')(bH:bdH nx' H')
  (k:JC X c QA ⟨(d,v1)::L',H',nx'⟩):JC X c QA ⟨L,H,nx⟩:=by
 intro M ρ a w h1 h2;obtain⟨M',e1,e2⟩:=h1.frzG h2 hl hd hf hv hL hH hm bL bH;exact k _ ρ a w e1 e2
section
variable {r:List Fr}{eid:TypeId}{e t:Ty}{xs:List e.den}{x:t.den}{c:Code}
def q84(m d:Nat)(hl:lk H m=some (.sl eid e xs))(hd:lk L d=some (.lf (.osl m)))(hL:subL L L')(hH:subH H H')(hm:lk H' m=none)(bL:bdL nx' L')(bH:bdH nx' H')
  (k:JK X (.ops md all l::r) QA ⟨(d,.val (.slice e) xs)::L',H',nx'⟩):JK X (.ops md all l::r) QA ⟨L,H,nx⟩:=JL.frzG hl hd j02 trivial hL hH hm bL bH k
def z6q(m d:Nat)(hl:lk H m=some (.sl eid e xs))(hd:lk L d=some (.lf (.osl m)))(hL:subL L L')(hH:subH H H')(hm:lk H' m=none)(bL:bdL nx' L')(bH:bdH nx' H')
  (k:JK X (.code c::r) QA ⟨(d,.val (.slice e) xs)::L',H',nx'⟩):JK X (.code c::r) QA ⟨L,H,nx⟩:=JC.frzG hl hd j02 trivial hL hH hm bL bH k
def j28(m d:Nat)(hl:lk H m=some (.cell t (.val t x)))(hd:lk L d=some (.lf (.optr m [])))(hL:subL L L')(hH:subH H H')(hm:lk H' m=none)(bL:bdL nx' L')(bH:bdH nx' H')
  (k:JK X (.ops md all l::r) QA ⟨(d,.val (.ptr t) (some x))::L',H',nx'⟩):JK X (.ops md all l::r) QA ⟨L,H,nx⟩:=JL.frzG hl hd z5y trivial hL hH hm bL bH k
def JK.frzPC(m d:Nat)(hl:lk H m=some (.cell t (.val t x)))(hd:lk L d=some (.lf (.optr m [])))(hL:subL L L')(hH:subH H H')(hm:lk H' m=none)(bL:bdL nx' L')(bH:bdH nx' H')
  (k:JK X (.code c::r) QA ⟨(d,.val (.ptr t) (some x))::L',H',nx'⟩):JK X (.code c::r) QA ⟨L,H,nx⟩:=JC.frzG hl hd z5y trivial hL hH hm bL bH k
end
def x7(h:JW X s' s)(k:JK X (.ops true all l::r) QA s'):JK X (.ops true all l::r) QA s:=q15 h k
def FO.args{az az':AV}(h:FO X f az H nx Q)(hb:az.bd nx)(hr:∀ M ρ vs,az'.rvs M ρ vs→az.rvs M ρ vs):FO X f az' H nx Q:=fun M0 M ρ w vs hS _ ha=>h M0 M ρ w vs hS hb (hr M ρ vs ha)
def q0k{ps:String}(Kp:List Nat){fst cap az:AV}{args:Array Operand}{tys:Array TypeId}
  (hu:opd L fo=some (cs1,.fn f fst cap)) (ha:opds L args.toList=some (cs2,az)) (hc:allP (cs1++cs2)) (hf:X.P.funcs[f]?=some fn) (hb:fn.body=some c) (he:∀ az w,(callFunc f az).run X.P w=.ok (.enter f az) w)
  (hn:argN (apA fst (apA az cap))≤fn.ntmps) (hd:ltB d X.n=true)
  (h:∀ M0 up,JK (X.sub M0 fn.ntmps none up) [.code c] (inlQ X fn.results.toList fun v L H nx=>JK X (.ops true all l::r) QA ⟨(d,v)::L,H,nx⟩) ⟨argL (apA fst (apA az cap)) 0,(nx,.fr X.dp (svL L Kp))::H,nx+1⟩) :
  JK X (.ops true all (⟨some d,.call {callee:=.value fo,args:=args,argTypes:=tys},ty,ps,af,none⟩::l)::r) QA ⟨L,H,nx⟩:=
 z6l (s:=⟨L,H,nx⟩) Kp rfl rfl hu ha hc hf hb he hn (j9 hd) h
def blkF(id:Nat):Code→Option Code
 |.block j c=>if j=id then some (.block j c) else blkF id c
 |.seq a b=>match blkF id a with|some r=>some r|none=>blkF id b
 |.loop c|.scope c=>blkF id c
 |.cond _ a b=>match blkF id a with|some r=>some r|none=>blkF id b
 |.rangeFunc _ _ a b=>match blkF id a with|some r=>some r|none=>blkF id b
 |_=>none
def subH.cons{o:HO}(h:subH H H')(hb:bdH n H')(hm:n≤m):subH ((m,o)::H) H':=fun j q hj=>by simp only[lk];rw[if_neg (fun e=>by subst e;have:=(g8 hb _ _ (w5 hj)).1;omega)];exact h j q hj
def z6o{c x y:Operand}{ps:String}(hc:opd L c=some (cs1,.val .bool b))(hb:b=false)(hy:opd L y=some (cs2,v))(hd:ltB d X.n=true)(h1:allP cs1)(h2:allP cs2)(k:JK X (.ops true all l::r) QA ⟨(d,v)::L,H,nx⟩) :
  JK X (.ops true all (⟨some d,.pick c x y,ty,ps,af,none⟩::l)::r) QA ⟨L,H,nx⟩:=JL.pickF hc hb hy hd h1 h2 k
def j3k(m:Nat)(eid:TypeId)(e:Ty)(hm:lk s.H m=some (.cell (.slice e) (.lf .nils)))
  (k:JC X c QA ⟨s.L,updH ((s.nx,.sl eid e [])::s.H) m (.cell (.slice e) (.lf (.osl s.nx))),s.nx+1⟩):JC X c QA s:=fun M ρ a w h1 h2=>by
 have g1:=h1.ghost eid e;have hr:=q1l ρ s.nx e;have g2:REG X M (ρ.nilAt s.nx e) ⟨s.L,updH ((s.nx,.sl eid e [])::s.H) m (.cell (.slice e) (.lf (.osl s.nx))),s.nx+1⟩ a:=by have:=h2.grow (H':=updH ((s.nx,.sl eid e [])::s.H) m (.cell (.slice e) (.lf (.osl s.nx)))) (nx':=s.nx+1) (Mem.le_refl M) hr (yy5 _) (p5 M);exact this
 obtain⟨o1,o2,o3⟩:=h1.own m _ hm;have ha:lk ((s.nx,HO.sl eid e [])::s.H) m=some (.cell (.slice e) (.lf .nils)):=by simp only[lk];rw[if_neg (by omega)];exact hm
 obtain⟨q1,q2,q3⟩:=g1.own m _ ha;refine k M _ a w (g1.upd ha (q11 w _) rfl (yy2 _) ?_) g2;simp only[HO.ok] at q3 ⊢;obtain⟨r1,r2,r3,c,ty,r4,r5⟩:=q3;refine⟨r1,rfl,r3,c,ty,r4,?_⟩;simp only[AV.rc,Leaf.at] at r5 ⊢;obtain⟨v,v1,v2,v3⟩:=r5;simp only[yya] at v1;subst v1;exact⟨_,by simp[Env.nilAt],rfl,v3⟩
def z2z(m:Nat)(eid:TypeId)(e:Ty)(hm:lk s.H m=some (.cell (.slice e) (.lf .nils)))
  (k:JK X (.code c::r) QA ⟨s.L,updH ((s.nx,.sl eid e [])::s.H) m (.cell (.slice e) (.lf (.osl s.nx))),s.nx+1⟩):JK X (.code c::r) QA s:=j3k m eid e hm k
def q82(Kp:List Nat){ps:Array Tmp}(hd:X.rd=none)(he:X.dp=0)(hu:opd s.L g=some (cs,.fn f .anil cap))
  (hf:X.P.funcs[f]?=some fn) (hb:fn.body=some c) (ha:∀ az w,(callFunc f az).run X.P w=.ok (.enter f az) w) (hn:argN (.acons .anil cap)≤fn.ntmps) (hc:allP cs)
  (h:∀ M up az bd,az=assign→bd=body→JK (X.sub M fn.ntmps none up) [.code c] (rngQ X fn.results.toList (qq X r QA))
   ⟨argL (.acons (.lf (.yld s.nx)) cap) 0,(s.nx+1,.fr X.dp ((X.n,.lf (.yld s.nx))::svL s.L Kp))::(s.nx,.loop .ready none ps az bd X.n (svL s.L Kp))::s.H,s.nx+2⟩):JK X (.code (.rangeFunc g ps assign body)::r) QA s:=
 j26 Kp hd he hu hf hb ha hn hc fun M up=>h M up _ _ rfl rfl
def z2y(Kp:List Nat){ps:Array Tmp}{st0:LoopState}
  (hd:X.rd=some bl) (he:X.up i0 nI=.func (.yield bl) #[] #[]) (hg:lk s.H lf=some (.fr i0 Lf)) (hh:lk Lf nI=some (.lf (.yld lab0))) (hj:lk s.H lab0=some (.loop st0 pe0 ps0 as0 bd0 n0 LO0))
  (hu:opd s.L g=some (cs,.fn f .anil cap))
  (hf:X.P.funcs[f]?=some fn) (hb:fn.body=some c) (ha:∀ az w,(callFunc f az).run X.P w=.ok (.enter f az) w) (hn:argN (.acons .anil cap)≤fn.ntmps) (hc:allP cs)
  (h:∀ M up az bd,az=assign→bd=body→JK (X.sub M fn.ntmps none up) [.code c] (rngQ X fn.results.toList (qq X r QA))
   ⟨argL (.acons (.lf (.yld s.nx)) cap) 0,(s.nx+1,.fr X.dp ((X.n,.lf (.yld s.nx))::svL s.L Kp))::(s.nx,.loop .ready none ps az bd X.n (svL s.L Kp))::s.H,s.nx+2⟩):JK X (.code (.rangeFunc g ps assign body)::r) QA s:=
 j25 Kp hd he hg hh hj hu hf hb ha hn hc fun M up=>h M up _ _ rfl rfl
def v9{c c':Code}(h:c=c')(k:JK X (.code c'::r) QA s):JK X (.code c::r) QA s:=by subst h;exact k
def lpF:Code→Option Code
 |.loop c=>some (.loop c)
 |.block _ c|.scope c=>lpF c
 |.seq a b=>match lpF a with|some r=>some r|none=>lpF b
 |.cond _ a b=>match lpF a with|some r=>some r|none=>lpF b
 |.rangeFunc _ _ a b=>match lpF a with|some r=>some r|none=>lpF b
 |_=>none
def lpC(c:Option Code):Code:=match c with|some c=>(lpF c).getD .skip|none=>.skip
end Ox
namespace Go.Proofs.YtjecebccchhmhaaGreatDoor
open Go Go.RowKit Ox
def tys:List (Nat×Ty):=[
 (2,(.int .i64)),
 (3,(.int .i64)),
 (4,.bool),
 (5,(.int .u8)),
 (22,(.int .u16)),
 (24,(.cons (.int .i64) (.cons (.int .i64) .nil))),
 (26,(.slice (.cons (.int .i64) (.cons (.int .i64) .nil)))),
 (27,(.slice (.cons (.int .i64) (.cons (.cons (.int .i64) (.cons (.int .i64) .nil)) .nil)))),
 (29,(.cons (.int .i64) (.cons (.slice (.cons (.int .i64) (.cons (.int .i64) .nil))) (.cons (.slice (.cons (.int .i64) (.cons (.cons (.int .i64) (.cons (.int .i64) .nil)) .nil))) .nil)))),
 (30,(.slice (.cons (.int .i64) (.cons (.int .i64) .nil)))),
 (31,(.slice (.cons (.int .i64) (.cons (.int .i64) .nil)))),
 (33,(.cons (.slice (.cons (.int .i64) (.cons (.int .i64) .nil))) (.cons (.slice (.cons (.int .i64) (.cons (.int .i64) .nil))) .nil))),
 (35,(.cons (.int .i64) (.cons (.int .i64) .nil))),
 (38,(.cons (.int .i64) (.cons (.int .i64) .nil))),
 (40,(.cons (.int .i64) (.cons (.cons (.int .i64) (.cons (.int .i64) .nil)) .nil))),
 (42,(.slice (.int .i64))),
 (43,(.int .i64)),
 (47,(.cons (.int .i64) (.cons (.int .i64) .nil))),
 (49,(.slice (.int .i64))),
 (52,(.slice (.cons (.int .i64) (.cons (.int .i64) .nil)))),
 (57,(.slice (.cons (.int .i64) (.cons (.cons (.int .i64) (.cons (.int .i64) .nil)) .nil)))),
 (61,(.cons (.int .i64) (.cons (.cons (.int .i64) (.cons (.int .i64) .nil)) .nil))),
 (81,(.ptr (.cons (.cons (.slice (.cons (.int .i64) (.cons (.int .i64) .nil))) (.cons (.slice (.cons (.int .i64) (.cons (.int .i64) .nil))) .nil)) .nil))),
 (85,(.int .u64)),
 (86,(.int .u64)),
 (99,(.ptr (.arr 4096 (.int .i64)))),
 (104,(.ptr (.cons (.cons (.int .i64) (.cons (.slice (.cons (.int .i64) (.cons (.int .i64) .nil))) (.cons (.slice (.cons (.int .i64) (.cons (.cons (.int .i64) (.cons (.int .i64) .nil)) .nil))) .nil))) (.cons (.slice (.cons (.int .i64) (.cons (.int .i64) .nil))) (.cons (.arr 12 (.arr 12 (.int .i64))) .nil))))),
 (128,(.slice (.int .u64))),
 (132,(.slice (.arr 4096 (.int .i64)))),
 (134,(.arr 4096 (.int .i64))),
 (136,(.arr 4096 (.int .i64))),
 (140,(.arr 12 (.int .i64))),
 (141,(.arr 12 (.arr 12 (.int .i64)))),
 (143,(.cons (.cons (.int .i64) (.cons (.slice (.cons (.int .i64) (.cons (.int .i64) .nil))) (.cons (.slice (.cons (.int .i64) (.cons (.cons (.int .i64) (.cons (.int .i64) .nil)) .nil))) .nil))) (.cons (.slice (.cons (.int .i64) (.cons (.int .i64) .nil))) (.cons (.arr 12 (.arr 12 (.int .i64))) .nil)))),
 (145,(.cons (.int .i64) .nil)),
 (200,(.int .u32)),
 (202,(.int .u64)),
 (204,(.arr 4096 (.int .u64))),
 (210,(.int .i64)),
 (244,(.arr 64 (.int .u8)))]
def ets:List (Nat×Nat):=[(26,35),(27,40),(30,24),(31,38),(42,3),(49,2),(52,47),(57,61),(128,86),(132,134)]
def mts:List (Nat×(Nat×Nat)):=[(121,(86,52)),(146,(145,3))]
def tab:tabB Tryz.prog tys ets mts=true:=by decide +kernel
def xok{X:Ctx}(h1:X.P=Tryz.prog)(h2:X.T=tys)(h3:X.ET=ets)(h4:X.MT=mts):XOK X:=z7l tab h1 h2 h3 h4
def xk{E:World}{M0:Mem}{rd:Option Nat}{up:Nat→Nat→Value}{dp:Nat}:XOK ⟨Tryz.prog,tys,ets,mts,E,M0,n,rd,up,dp⟩:=xok rfl rfl rfl rfl
end Go.Proofs.YtjecebccchhmhaaGreatDoor
namespace Ox.Two
abbrev Ev:=List (Int×Int×Unit)
def isSay(n:Nat)(s:Int):Prop:=(1≤s∧s≤n)∨(-(n:Int)≤s∧s≤-1)
def valid(n:Nat)(ev:Ev):Prop:=∀ x∈ev,isSay n x.1∧isSay n x.2.1
def holds(v:Nat→Bool)(s:Int):Bool:=if s<0 then !v (-1-s).toNat else v (s-1).toNat
def Sat(ev:Ev)(v:Nat→Bool):Prop:=∀ x∈ev,holds v x.1=true∨holds v x.2.1=true
def Step(ev:Ev)(a b:Int):Prop:=∃ x∈ev,(x.1=-a∧x.2.1=b)∨(x.2.1=-a∧x.1=b)
inductive Ch(ev:Ev):Nat→Int→Int→Prop
 |nil (a:Int):Ch ev 0 a a
 |snoc {k:Nat} {a b c:Int}:Ch ev k a b→Step ev b c→Ch ev (k+1) a c
def Reach(ev:Ev)(a b:Int):Prop:=∃ k,Ch ev k a b
def isSay.neg(h:isSay n s):isSay n (-s):=by unfold isSay at *;omega
variable{ev:Ev}{b:Int}
def Step.say(hv:valid n ev)(h:Step ev a b):isSay n a∧isSay n b:=by
 obtain⟨x,hx,h|h⟩:=h
 ·have:=hv x hx;rw[h.1,h.2] at this;exact⟨by have:=this.1.neg;rwa[Int.neg_neg] at this,this.2⟩
 ·have:=hv x hx;rw[h.1,h.2] at this;exact⟨by have:=this.2.neg;rwa[Int.neg_neg] at this,this.1⟩
def Ch.cons{ev:Ev}{a b:Int}(h:Step ev a b):∀ {k:Nat} {c:Int},Ch ev k b c→Ch ev (k+1) a c
 |_,_,.nil _=>.snoc (.nil a) h
 |_,_,.snoc h1 h2=>.snoc (Ch.cons h h1) h2
def Ch.trans{ev:Ev}{a b c:Int}{k:Nat}(h:Ch ev k a b):∀ {m:Nat},Ch ev m b c→Ch ev (k+m) a c
 |_,.nil _=>h
 |_,.snoc h1 h2=>.snoc (Ch.trans h h1) h2
def Reach.trans{ev:Ev}{a b c:Int}(h:Reach ev a b)(k:Reach ev b c):Reach ev a c:=by obtain⟨i,h⟩:=h;obtain⟨j,k⟩:=k;exact⟨i+j,h.trans k⟩
def j0v(v:Nat→Bool)(h:isSay n s):holds v (-s)=!holds v s:=by
 unfold holds;unfold isSay at h;by_cases hs:s<0
 ·rw[if_neg (by omega),if_pos hs,Bool.not_not];congr 1;omega
 ·rw[if_pos (by omega),if_neg hs];congr 2;omega
def Sat.step{v:Nat→Bool}(hv:valid n ev)(h:Sat ev v)(hs:Step ev a b)(ha:holds v a=true):holds v b=true:=by
 have hb:=(hs.say hv).1;have hn:=j0v v hb;rw[ha] at hn;obtain⟨x,hx,e|e⟩:=hs
 ·have:=h x hx;rw[e.1,e.2,hn] at this;simpa using this
 ·have:=h x hx;rw[e.1,e.2,hn] at this;simpa using this
end Ox.Two
namespace Ox.Sh
open Ox
abbrev Sh:=Int×Int×Int×Unit
abbrev da(s:Sh):Int:=s.1
abbrev dr(s:Sh):Int:=s.2.1
abbrev dp(s:Sh):Int:=s.2.2.1
abbrev z0:Sh:=(0,0,0,())
def nx(l:List Sh)(p:Int×Int)(n:Nat):Int×Int:=(p.1+da (l.getD n z0),Max.max (p.1+da (l.getD n z0)+dr (l.getD n z0)) p.2+dp (l.getD n z0))
def okS(s:Sh):Prop:=0≤da s∧da s≤1000∧0≤dr s∧dr s≤1000∧0≤dp s∧dp s≤1000
def okD(l:List Sh):Prop:=∀ s∈l,okS s
def okD.get{l:List Sh}(h:okD l)(n:Nat):okS (l.getD n z0):=by
 by_cases hn:n<l.length
 ·rw[yyq,yyt hn];exact h _ (yy4 hn)
 ·rw[yyq,yxe (by omega)];exact⟨by decide,by decide,by decide,by decide,by decide,by decide⟩
def sm(f:Nat→Int)(o:List Nat):Int:=(o.map f).sum
section
variable {l:List Sh}{m n:Nat}(hm:okS (l.getD m z0))(hn:okS (l.getD n z0))
include hm hn
end
def freeL(N:Nat)(row:List Nat):List Nat:=(List.range N).filter fun n=>decide (n∉row)
end Ox.Sh
namespace Ox.Se
open Ox
variable {E A:Nat→Int}
abbrev ps(c:Nat×List Nat):List Nat:=c.1::c.2
abbrev flat(L:List (Nat×List Nat)):List Nat:=L.flatMap ps
end Ox.Se
namespace Ox.Se
open Ox Ox.Sh
abbrev Pt:=Int×Int×Unit
abbrev zP:Pt:=(0,0,())
def aT(l:List Pt)(n:Nat):Int:=(l.getD n zP).1
def lO(l:List Pt)(n:Nat):Int:=(l.getD n zP).2.1
def eN(P:Int)(l:List Pt)(n:Nat):Int:=(aT l n+lO l n) % P
def gp(P:Int)(l:List Pt)(i j:Nat):Int:=(aT l j-eN P l i) % P
def wst(P:Int)(l:List Pt):Nat→List Nat→Int
 |_,[]=>0
 |i,j::r=>gp P l i j+wst P l j r
def tot(P:Int)(l:List Pt)(h:Nat)(t:List Nat):Int:=sm (lO l) (h::t)+wst P l h (t++[h])
def ov1(P:Int)(l:List Pt)(u:Int)(n:Nat):Int:=lO l n / P+if (u-aT l n) % P<lO l n % P then 1 else 0
def ov(P:Int)(l:List Pt)(u:Int):Int:=sm (ov1 P l u) (List.range l.length)
variable {P:Int}{l:List Pt}{c:Int}
def LA(P:Int)(l:List Pt)(c:Int)(n:Nat):Int:=(aT l n-c-1) % P
def LE(P:Int)(l:List Pt)(c:Int)(n:Nat):Int:=(eN P l n-c-1) % P
def rd(P:Int)(l:List Pt)(h:Nat)(t:List Nat):Int:=tot P l h t / P
abbrev isO(l:List Pt)(h:Nat)(t:List Nat):Prop:=(h::t).Perm (List.range l.length)
def opn(P:Int)(l:List Pt)(c z:Int):Prop:=ov P l ((z+c+1) % P)<ov P l c
def tch(P:Int)(l:List Pt)(c:Int)(i k:Nat):Prop:=∃ x y,(x=LA P l c i∨x=LE P l c i)∧(y=LA P l c k∨y=LE P l c k)∧∀ z,Min.min x y≤z→z<Max.max x y→opn P l c z
def held(P:Int)(l:List Pt)(c:Int):Prop:=∀ S:Nat→Prop,(∃ i,i<l.length∧S i)→(∃ k,k<l.length∧¬ S k)→∃ i k,i<l.length∧k<l.length∧S i∧¬ S k∧tch P l c i k
def amx(f:Nat→Int):Nat→Nat
 |0=>0
 |k+1=>if f (amx f k)<f (k+1) then k+1 else amx f k
def pkA(P:Int)(l:List Pt):Nat:=amx (fun u=>ov P l (u:Int)) (P.toNat-1)
def pkV(P:Int)(l:List Pt):Int:=ov P l (pkA P l:Int)
def flB(P:Int)(l:List Pt)(u:Nat):Bool:=decide (ov P l (u:Int)=pkV P l)
def okP(P:Int)(l:List Pt):Prop:=∀ s∈l,(0≤s.1∧s.1<P)∧1≤s.2.1∧s.2.1≤10000
def okP.get(h:okP P l)(hn:n<l.length):(0≤aT l n∧aT l n<P)∧1≤lO l n∧lO l n≤10000:=by unfold aT lO;rw[yyq,yyt hn];exact h _ (yy4 hn)
end Ox.Se
namespace Ox
open Go Go.RowKit
variable {X:Ctx}{M:Mem}{ρ:Env}{a:Act}{w w':World}{QA:Exit→S→Prop}{all l:List Oper}{L:List (Nat×AV)}{H:List (Nat×HO)}{nx d:Nat}{ty:TypeId}{ps:String}{af:Array Edge}
variable {s:S}{a':Act}{K:S→Prop}{ops:List Oper}{ls fl fr:List Nat}{fuel:Nat}
variable{op:Op}{g:Bool}{cs:List Prop}{v:AV}
def JF.firstG(i:Nat){ps:String}{nx:Nat}
  (hX:XOK X) (hf:fsB ops ls fl i=true) (ho:ops[i]?=some ⟨some d,op,ty,ps,af,some gg⟩) (hg:gOf ops L (some gg)=some g) (hE:g=true) (e3:isLoad op=false)
  (h:evq X.T op ⟨L,H,nx⟩=some (cs,v)) (hd:ltB d X.n=true) (hc:allP cs) (k:JF X ops K fl fuel (i::ls) ⟨(d,v)::L,H,nx⟩):JF X ops K fl (fuel+1) ls ⟨L,H,nx⟩:=by
 intro M ρ a a' w l fr ha hF hl hp h1 h2;simp only[fsB,yyc,yyv] at hf;obtain⟨⟨⟨⟨hG,hA⟩,hf⟩,hB⟩,hs,hv⟩:=hf;simp only[frB,ho,yyc,yyv] at hf;obtain⟨⟨_,h4⟩,e4⟩:=hf;have hC:i<ops.length:=(yy6.1 ho).1;have hH:i∉fr:=fun hc=>by simp at hA;exact hA (ha i hc)
 have hD:=u0.1 h4;have hh:∀ g∈fr,∀ q,ops[g]?=some q→halfB ops q (⟨some d,op,ty,ps,af,some gg⟩:Oper)=true:=by intro g hg q hq;simp only[apB,ho] at hB;have:=yyx.1 hB g (ha g hg);rw[hq] at this;simp only[yyy] at this;refine this.resolve_left fun hw=>?_;obtain⟨e,he,hb,rfl⟩:=r9.1 hw;have:=(hD e (by simpa using he) hb).2;rw[m5] at this;simp[ha _ hg] at this
 obtain⟨hb,z,hz,hy⟩:=q6z hX.t (o:=⟨some d,op,ty,ps,af,some gg⟩) e3 h hc h1 h2;have hk:∀ (j:Nat) (o:Oper) cs b,ops.toArray[j]?=some o→o.op≠.select cs b:=Region.noSelect_spec hs;obtain⟨hJ,hK⟩:=PutsR.exec (o:=⟨some d,op,ty,ps,af,some gg⟩) (hk i _ · · (by simpa using ho)) hp fun g hg q hq=>(p6 (hh g hg q hq)).1;have hw:=(u7 (o:=⟨some d,op,ty,ps,af,some gg⟩) hg h2).trans hE;rw[show fuel+1+fr.length=(fuel+fr.length)+1 by omega];refine q02 (fun _ _ _ h=>q46 h) (i:=i) (oi:=⟨some d,op,ty,ps,af,some gg⟩) (v:=z) (by simpa using ho) hk (q0a hv) (fuel+fr.length) l a w ?_ ?_ (.inl ⟨hK.symm.trans hw,by rw[← hJ];exact hy⟩) ?_
 ·intro j oj hj hQ hu hL;have hM:j<ops.length:=by have:=(yyi.1 hj).1;simpa using this
  refine q1n e4 j oj (by simpa using hj) (by omega) ?_ hL;rw[hl.getT hM] at hu;rw[yxt,m5];cases hc:ls.contains j with
  |false=>rfl
  |true=>rw[hc] at hu;simp at hu;simp[ha _ hu]
 ·refine mem_ready.2 ⟨by rw[hl.getT hC,hG];rfl,_,by simpa using ho,fun e he hb=>?_⟩;obtain⟨e1,e2⟩:=hD e (by simpa using he) hb;rw[m5,yyc] at e2;rw[hl.getT e1,e2.1];have:e.on∉fr:=fun hc=>by have:=e2.2;simp[ha _ hc] at this
  simp[this]
 ·exact k M ρ _ (a'.put (some d) z) w _ fr ha hF (hl.setNew hC hH) (PutsR.put (d:=some d) hp fun f hf o hN e he hP=>(p6 (hh f hf o hN)).2 e he hP)
   (z8 (d:=some d) (v:=v) h1) (h2.putO (d:=some d) (dstOk.spec (j9 hd)) hb hz)
def j3g(i:Nat){ps:String}{nx:Nat}
  (hX:XOK X) (hf:fsB ops ls fl i=true) (ho:ops[i]?=some ⟨some d,op,ty,ps,af,some gg⟩) (hg:gOf ops L (some gg)=some g) (e3:isLoad op=false)
  (h:evq X.T op ⟨L,H,nx⟩=some (cs,v)) (hd:ltB d X.n=true) (hc:g=true→allP cs) (k:JF X ops K fl fuel (i::ls) ⟨(d,.gd g v)::L,H,nx⟩):JF X ops K fl (fuel+1) ls ⟨L,H,nx⟩:=by
 intro M ρ a a' w l fr ha hG hl hp h1 h2;simp only[fsB,yyc,yyv] at hf;obtain⟨⟨⟨⟨hH,hB⟩,hf⟩,hC⟩,hs,hv⟩:=hf;simp only[frB,ho,yyc,yyv] at hf;obtain⟨⟨_,h4⟩,e4⟩:=hf;have hD:i<ops.length:=(yy6.1 ho).1;have hJ:i∉fr:=fun hc=>by simp at hB;exact hB (ha i hc)
 have hE:=u0.1 h4;have hh:∀ g∈fr,∀ q,ops[g]?=some q→halfB ops q (⟨some d,op,ty,ps,af,some gg⟩:Oper)=true:=by intro g hg q hq;simp only[apB,ho] at hC;have:=yyx.1 hC g (ha g hg);rw[hq] at this;simp only[yyy] at this;refine this.resolve_left fun hw=>?_;obtain⟨e,he,hb,rfl⟩:=r9.1 hw;have:=(hE e (by simpa using he) hb).2;rw[m5] at this;simp[ha _ hg] at this
 have hk:∀ (j:Nat) (o:Oper) cs b,ops.toArray[j]?=some o→o.op≠.select cs b:=Region.noSelect_spec hs;obtain⟨hK,hF⟩:=PutsR.exec (o:=⟨some d,op,ty,ps,af,some gg⟩) (hk i _ · · (by simpa using ho)) hp fun g hg q hq=>(p6 (hh g hg q hq)).1;have hw:=u7 (o:=⟨some d,op,ty,ps,af,some gg⟩) hg h2;obtain⟨z,hb,hz,hy⟩:∃ z,(AV.gd g v).bd nx∧(AV.gd g v).rv M ρ z∧YA X.P ops.toArray ⟨some d,op,ty,ps,af,some gg⟩ z a:=by
  cases g with
  |true=>obtain⟨hb,z,hz,hA⟩:=q6z hX.t (o:=⟨some d,op,ty,ps,af,some gg⟩) e3 h (hc rfl) h1 h2;exact⟨z,fun _=>hb,by simp only[AV.rv];exact⟨fun _=>hz,fun h=>by cases h⟩,.inl ⟨hF.symm.trans hw,by rw[← hK];exact hA⟩⟩
  |false=>exact⟨Go.undef,(fun h=>by cases h),by simp only[AV.rv];exact⟨(fun h=>by cases h),fun _=>trivial⟩,.inr ⟨hF.symm.trans hw,rfl⟩⟩
 rw[show fuel+1+fr.length=(fuel+fr.length)+1 by omega];refine q02 (fun _ _ _ h=>q46 h) (i:=i) (oi:=⟨some d,op,ty,ps,af,some gg⟩) (v:=z) (by simpa using ho) hk (q0a hv) (fuel+fr.length) l a w ?_ ?_ hy ?_
 ·intro j oj hj hQ hu hL;have hM:j<ops.length:=by have:=(yyi.1 hj).1;simpa using this
  refine q1n e4 j oj (by simpa using hj) (by omega) ?_ hL;rw[hl.getT hM] at hu;rw[yxt,m5];cases hc:ls.contains j with
  |false=>rfl
  |true=>rw[hc] at hu;simp at hu;simp[ha _ hu]
 ·refine mem_ready.2 ⟨by rw[hl.getT hD,hH];rfl,_,by simpa using ho,fun e he hb=>?_⟩;obtain⟨e1,e2⟩:=hE e (by simpa using he) hb;rw[m5,yyc] at e2;rw[hl.getT e1,e2.1];have:e.on∉fr:=fun hc=>by have:=e2.2;simp[ha _ hc] at this
  simp[this]
 ·exact k M ρ _ (a'.put (some d) z) w _ fr ha hG (hl.setNew hD hJ) (PutsR.put (d:=some d) hp fun f hf o hN e he hP=>(p6 (hh f hf o hN)).2 e he hP)
   (z8 (d:=some d) (v:=.gd g v) h1) (h2.putO (d:=some d) (dstOk.spec (j9 hd)) hb hz)
def q1w(i:Nat){ps:String}{nx:Nat}
  (hX:XOK X) (ho:ops[i]?=some ⟨some d,op,ty,ps,af,some gg⟩) (hg:gOf ops L (some gg)=some g) (h:evq X.T op ⟨L,H,nx⟩=some (cs,v)) (k:JF X ops K fl fuel (i::ls) ⟨(d,.gd g v)::L,H,nx⟩)
  (hf:fsB ops ls fl i=true:=by decide +kernel) (e3:isLoad op=false:=by rfl) (hd:ltB d X.n=true:=by rfl) (hc:g=true→allP cs:=by exact zE) :
  JF X ops K fl (fuel+1) ls ⟨L,H,nx⟩:=j3g i hX hf ho hg e3 h hd hc k
end Ox
namespace Ox
open Go Go.RowKit
noncomputable section
def bAnd(x y:Bool):Bool:=@Bool.rec (fun _=>Bool) false y x
def v5{x y:Bool}:bAnd x y=true↔x=true∧y=true:=by cases x<;>cases y<;>simp[bAnd]
def kEqF(a b:IntKind):Bool:=Nat.beq a.ctorIdx b.ctorIdx
def kEqF_eq(a b:IntKind):kEqF a b=decide (a=b):=by cases a<;>cases b<;>rfl
def bEqF(a b:Bool):Bool:=@Bool.rec (fun _=>Bool) (@Bool.rec (fun _=>Bool) true false b) b a
def j12(a b:Bool):bEqF a b=(a==b):=by cases a<;>cases b<;>rfl
def iEq(a b:Int):Bool:=@Int.rec (fun _=>Int→Bool) (fun m b=>@Int.rec (fun _=>Bool) (fun n=>Nat.beq m n) (fun _=>false) b) (fun m b=>@Int.rec (fun _=>Bool) (fun _=>false) (fun n=>Nat.beq n m) b) a b
def z2c(a b:Int):iEq a b=(a==b):=by rw[yxb];cases a<;>cases b<;>simp[iEq]<;>omega
def RV.eqb(a:RV):RV→Bool:=@RV.rec (fun _=>RV→Bool) (fun k j b=>@RV.rec (fun _=>Bool) (fun k2 j2=>bAnd (kEqF k k2) (iEq j j2)) (fun _=>false) (false) (false) (false) (false) (false) (fun _ _=>false) (fun _ _ _ _=>false) (fun _ _ _ _ _ _=>false) (fun _=>false) (fun _=>false) (fun _=>false) (fun _ _ _ _ _=>false) (fun _ _=>false) (fun _ _=>false) (false) (fun _ _ _ _=>false) b) (fun x b=>@RV.rec (fun _=>Bool) (fun _ _=>false) (fun x2=>bEqF x x2) (false) (false) (false) (false) (false) (fun _ _=>false) (fun _ _ _ _=>false) (fun _ _ _ _ _ _=>false) (fun _=>false) (fun _=>false) (fun _=>false) (fun _ _ _ _ _=>false) (fun _ _=>false) (fun _ _=>false) (false) (fun _ _ _ _=>false) b) (fun b=>@RV.rec (fun _=>Bool) (fun _ _=>false) (fun _=>false) (true) (false) (false) (false) (false) (fun _ _=>false) (fun _ _ _ _=>false) (fun _ _ _ _ _ _=>false) (fun _=>false) (fun _=>false) (fun _=>false) (fun _ _ _ _ _=>false) (fun _ _=>false) (fun _ _=>false) (false) (fun _ _ _ _=>false) b) (fun b=>@RV.rec (fun _=>Bool) (fun _ _=>false) (fun _=>false) (false) (true) (false) (false) (false) (fun _ _=>false) (fun _ _ _ _=>false) (fun _ _ _ _ _ _=>false) (fun _=>false) (fun _=>false) (fun _=>false) (fun _ _ _ _ _=>false) (fun _ _=>false) (fun _ _=>false) (false) (fun _ _ _ _=>false) b) (fun b=>@RV.rec (fun _=>Bool) (fun _ _=>false) (fun _=>false) (false) (false) (true) (false) (false) (fun _ _=>false) (fun _ _ _ _=>false) (fun _ _ _ _ _ _=>false) (fun _=>false) (fun _=>false) (fun _=>false) (fun _ _ _ _ _=>false) (fun _ _=>false) (fun _ _=>false) (false) (fun _ _ _ _=>false) b) (fun b=>@RV.rec (fun _=>Bool) (fun _ _=>false) (fun _=>false) (false) (false) (false) (true) (false) (fun _ _=>false) (fun _ _ _ _=>false) (fun _ _ _ _ _ _=>false) (fun _=>false) (fun _=>false) (fun _=>false) (fun _ _ _ _ _=>false) (fun _ _=>false) (fun _ _=>false) (false) (fun _ _ _ _=>false) b) (fun b=>@RV.rec (fun _=>Bool) (fun _ _=>false) (fun _=>false) (false) (false) (false) (false) (true) (fun _ _=>false) (fun _ _ _ _=>false) (fun _ _ _ _ _ _=>false) (fun _=>false) (fun _=>false) (fun _=>false) (fun _ _ _ _ _=>false) (fun _ _=>false) (fun _ _=>false) (false) (fun _ _ _ _=>false) b) (fun l q b=>@RV.rec (fun _=>Bool) (fun _ _=>false) (fun _=>false) (false) (false) (false) (false) (false) (fun l2 q2=>bAnd (Nat.beq l l2) (Nat.beq q q2)) (fun _ _ _ _=>false) (fun _ _ _ _ _ _=>false) (fun _=>false) (fun _=>false) (fun _=>false) (fun _ _ _ _ _=>false) (fun _ _=>false) (fun _ _=>false) (false) (fun _ _ _ _=>false) b) (fun l q n c b=>@RV.rec (fun _=>Bool) (fun _ _=>false) (fun _=>false) (false) (false) (false) (false) (false) (fun _ _=>false) (fun l2 q2 n2 c2=>bAnd (Nat.beq l l2) (bAnd (Nat.beq q q2) (bAnd (Nat.beq n n2) (Nat.beq c c2)))) (fun _ _ _ _ _ _=>false) (fun _=>false) (fun _=>false) (fun _=>false) (fun _ _ _ _ _=>false) (fun _ _=>false) (fun _ _=>false) (false) (fun _ _ _ _=>false) b) (fun l e a d w z b=>@RV.rec (fun _=>Bool) (fun _ _=>false) (fun _=>false) (false) (false) (false) (false) (false) (fun _ _=>false) (fun _ _ _ _=>false) (fun l2 e2 a2 d2 w2 z2=>bAnd (Nat.beq l l2) (bAnd (Nat.beq e e2) (bAnd (Nat.beq a a2) (bAnd (Nat.beq d d2) (bAnd (bEqF w w2) (Nat.beq z z2)))))) (fun _=>false) (fun _=>false) (fun _=>false) (fun _ _ _ _ _=>false) (fun _ _=>false) (fun _ _=>false) (false) (fun _ _ _ _=>false) b) (fun l b=>@RV.rec (fun _=>Bool) (fun _ _=>false) (fun _=>false) (false) (false) (false) (false) (false) (fun _ _=>false) (fun _ _ _ _=>false) (fun _ _ _ _ _ _=>false) (fun l2=>Nat.beq l l2) (fun _=>false) (fun _=>false) (fun _ _ _ _ _=>false) (fun _ _=>false) (fun _ _=>false) (false) (fun _ _ _ _=>false) b) (fun l b=>@RV.rec (fun _=>Bool) (fun _ _=>false) (fun _=>false) (false) (false) (false) (false) (false) (fun _ _=>false) (fun _ _ _ _=>false) (fun _ _ _ _ _ _=>false) (fun _=>false) (fun l2=>Nat.beq l l2) (fun _=>false) (fun _ _ _ _ _=>false) (fun _ _=>false) (fun _ _=>false) (false) (fun _ _ _ _=>false) b) (fun l b=>@RV.rec (fun _=>Bool) (fun _ _=>false) (fun _=>false) (false) (false) (false) (false) (false) (fun _ _=>false) (fun _ _ _ _=>false) (fun _ _ _ _ _ _=>false) (fun _=>false) (fun _=>false) (fun l2=>Nat.beq l l2) (fun _ _ _ _ _=>false) (fun _ _=>false) (fun _ _=>false) (false) (fun _ _ _ _=>false) b) (fun fi a c iha ihc b=>@RV.rec (fun _=>Bool) (fun _ _=>false) (fun _=>false) (false) (false) (false) (false) (false) (fun _ _=>false) (fun _ _ _ _=>false) (fun _ _ _ _ _ _=>false) (fun _=>false) (fun _=>false) (fun _=>false) (fun fi2 a2 c2 _ _=>bAnd (Nat.beq fi fi2) (bAnd (iha a2) (ihc c2))) (fun _ _=>false) (fun _ _=>false) (false) (fun _ _ _ _=>false) b) (fun c ih b=>@RV.rec (fun _=>Bool) (fun _ _=>false) (fun _=>false) (false) (false) (false) (false) (false) (fun _ _=>false) (fun _ _ _ _=>false) (fun _ _ _ _ _ _=>false) (fun _=>false) (fun _=>false) (fun _=>false) (fun _ _ _ _ _=>false) (fun c2 _=>ih c2) (fun _ _=>false) (false) (fun _ _ _ _=>false) b) (fun c ih b=>@RV.rec (fun _=>Bool) (fun _ _=>false) (fun _=>false) (false) (false) (false) (false) (false) (fun _ _=>false) (fun _ _ _ _=>false) (fun _ _ _ _ _ _=>false) (fun _=>false) (fun _=>false) (fun _=>false) (fun _ _ _ _ _=>false) (fun _ _=>false) (fun c2 _=>ih c2) (false) (fun _ _ _ _=>false) b) (fun b=>@RV.rec (fun _=>Bool) (fun _ _=>false) (fun _=>false) (false) (false) (false) (false) (false) (fun _ _=>false) (fun _ _ _ _=>false) (fun _ _ _ _ _ _=>false) (fun _=>false) (fun _=>false) (fun _=>false) (fun _ _ _ _ _=>false) (fun _ _=>false) (fun _ _=>false) (true) (fun _ _ _ _=>false) b) (fun a r iha ihr b=>@RV.rec (fun _=>Bool) (fun _ _=>false) (fun _=>false) (false) (false) (false) (false) (false) (fun _ _=>false) (fun _ _ _ _=>false) (fun _ _ _ _ _ _=>false) (fun _=>false) (fun _=>false) (fun _=>false) (fun _ _ _ _ _=>false) (fun _ _=>false) (fun _ _=>false) (false) (fun a2 r2 _ _=>bAnd (iha a2) (ihr r2)) b) a
def m9:∀ {a b:RV},a.eqb b=true→a=b:=by
 intro a;induction a<;>intro b h<;>cases b<;>first|rfl|(cases (show false=true from h);done)|skip
 case i k j k2 j2=>have h:=v5.1 (show bAnd (kEqF k k2) (iEq j j2)=true from h);rw[kEqF_eq,z2c] at h;simp only[yyu,beq_iff_eq] at h;rw[h.1,h.2]
 case b x x2=>have h:bEqF x x2=true:=h;rw[j12] at h;rw[eq_of_beq h]
 case p l q l2 q2=>have h:=v5.1 (show bAnd (Nat.beq l l2) (Nat.beq q q2)=true from h);rw[yyg h.1,yyg h.2]
 case s l q n c l2 q2 n2 c2=>have h:bAnd (Nat.beq l l2) (bAnd (Nat.beq q q2) (bAnd (Nat.beq n n2) (Nat.beq c c2)))=true:=h;simp only[v5] at h;rw[yyg h.1,yyg h.2.1,yyg h.2.2.1,yyg h.2.2.2]
 case o l e a d w z l2 e2 a2 d2 w2 z2=>have h:bAnd (Nat.beq l l2) (bAnd (Nat.beq e e2) (bAnd (Nat.beq a a2) (bAnd (Nat.beq d d2) (bAnd (bEqF w w2) (Nat.beq z z2)))))=true:=h;simp only[v5,j12,beq_iff_eq] at h;rw[yyg h.1,yyg h.2.1,yyg h.2.2.1,yyg h.2.2.2.1,h.2.2.2.2.1,yyg h.2.2.2.2.2]
 case m l l2=>rw[yyg (show Nat.beq l l2=true from h)]
 case it l l2=>rw[yyg (show Nat.beq l l2=true from h)]
 case y l l2=>rw[yyg (show Nat.beq l l2=true from h)]
 case f fi a c iha ihc fi2 a2 c2=>have h:bAnd (Nat.beq fi fi2) (bAnd (a.eqb a2) (c.eqb c2))=true:=h;simp only[v5] at h;rw[yyg h.1,iha h.2.1,ihc h.2.2]
 case g c ih c2=>rw[ih (show c.eqb c2=true from h)]
 case t c ih c2=>rw[ih (show c.eqb c2=true from h)]
 case cons a r iha ihr a2 r2=>have h:=v5.1 (show bAnd (a.eqb a2) (r.eqb r2)=true from h);rw[iha h.1,ihr h.2]
inductive Tr
 |lf (v:RV)
 |nd (l r:Tr)
def Tr.get(t:Tr):Nat→RV:=@Tr.rec (fun _=>Nat→RV) (fun v _=>v) (fun _ _ l r i=>@Bool.rec (fun _=>RV) (r (Nat.div i 2)) (l (Nat.div i 2)) (Nat.beq (Nat.mod i 2) 0)) t
def j2e(v:RV)(i:Nat):(Tr.lf v).get i=v:=rfl
def q3i(l r:Tr)(i:Nat):(Tr.nd l r).get i=bif Nat.beq (i % 2) 0 then l.get (i / 2) else r.get (i / 2):=by show @Bool.rec (fun _=>RV) (r.get (i / 2)) (l.get (i / 2)) (Nat.beq (i % 2) 0)=_;cases Nat.beq (i % 2) 0<;>rfl
def Tr.mk(l:Tr):Tr→Tr:=@Tr.rec (fun _=>Tr→Tr) (fun a r=>@Tr.rec (fun _=>RV→Tr) (fun b a=>@Bool.rec (fun _=>Tr) (.nd (.lf a) (.lf b)) (.lf a) (a.eqb b)) (fun l' r' _ _ a=>.nd (.lf a) (.nd l' r')) r a) (fun l1 l2 _ _ r=>.nd (.nd l1 l2) r) l
def Tr.left(t:Tr):Tr:=@Tr.rec (fun _=>Tr) (fun v=>.lf v) (fun l _ _ _=>l) t
def Tr.right(t:Tr):Tr:=@Tr.rec (fun _=>Tr) (fun v=>.lf v) (fun _ r _ _=>r) t
def Tr.set(d:Nat):Tr→Nat→RV→Tr:=@Nat.rec (fun _=>Tr→Nat→RV→Tr) (fun _ _ v=>.lf v) (fun _ ih t i v=>@Bool.rec (fun _=>Tr) (Tr.mk t.left (ih t.right (Nat.div i 2) v)) (Tr.mk (ih t.left (Nat.div i 2) v) t.right) (Nat.beq (Nat.mod i 2) 0)) d
def Tr.set_0(t:Tr)(i:Nat)(v:RV):Tr.set 0 t i v=.lf v:=rfl
def Tr.set_s(d:Nat)(t:Tr)(i:Nat)(v:RV):Tr.set (d+1) t i v=bif Nat.beq (i % 2) 0 then Tr.mk (Tr.set d t.left (i / 2) v) t.right else Tr.mk t.left (Tr.set d t.right (i / 2) v):=by show @Bool.rec (fun _=>Tr) (Tr.mk t.left (Tr.set d t.right (i / 2) v)) (Tr.mk (Tr.set d t.left (i / 2) v) t.right) (Nat.beq (i % 2) 0)=_;cases Nat.beq (i % 2) 0<;>rfl
def z2q(l r:Tr)(i:Nat):(Tr.mk l r).get i=bif Nat.beq (i % 2) 0 then l.get (i / 2) else r.get (i / 2):=by
 cases l with
 |nd l1 l2=>exact q3i _ _ _
 |lf a=>
  cases r with
  |nd r1 r2=>exact q3i _ _ _
  |lf b=>
   show(@Bool.rec (fun _=>Tr) (.nd (.lf a) (.lf b)) (.lf a) (a.eqb b):Tr).get i=_;cases h:a.eqb b
   ·exact q3i _ _ _
   ·have:=m9 h;subst this;show a=bif Nat.beq (i % 2) 0 then a else a;cases Nat.beq (i % 2) 0<;>rfl
def q6c(t:Tr)(i:Nat):t.get i=bif Nat.beq (i % 2) 0 then t.left.get (i / 2) else t.right.get (i / 2):=by
 cases t with
 |lf v=>show v=bif Nat.beq (i % 2) 0 then v else v;cases Nat.beq (i % 2) 0<;>rfl
 |nd l r=>exact q3i _ _ _
def q62:∀ {d:Nat} {t:Tr} {i j:Nat} {v:RV},i<2 ^ d→j<2 ^ d→(Tr.set d t i v).get j=if j=i then v else t.get j
 |0,t,i,j,v,hi,hj=>by
  have:j=i:=by simp at hi hj;omega
  rw[Tr.set_0,j2e,if_pos this]
 |d+1,t,i,j,v,hi,hj=>by
  have ha:i / 2<2 ^ d:=by rw[Nat.pow_succ] at hi;omega
  have hd:j / 2<2 ^ d:=by rw[Nat.pow_succ] at hj;omega
  rw[Tr.set_s];cases hb:Nat.beq (i % 2) 0
  ·have h1:i % 2=1:=by
    have:¬ i % 2=0:=fun h=>by rw[h] at hb;cases hb
    omega
   rw[cond_false,z2q];cases hc:Nat.beq (j % 2) 0
   ·have h2:j % 2=1:=by
     have:¬ j % 2=0:=fun h=>by rw[h] at hc;cases hc
     omega
    rw[cond_false,q62 ha hd,q6c t j,hc,cond_false];by_cases e:j=i
    ·rw[if_pos e,if_pos (by rw[e])]
    ·rw[if_neg e,if_neg (by omega)]
   ·have h2:j % 2=0:=yyg hc;rw[cond_true,q6c t j,hc,cond_true,if_neg (by omega)]
  ·have h1:i % 2=0:=yyg hb;rw[cond_true,z2q];cases hc:Nat.beq (j % 2) 0
   ·have h2:j % 2=1:=by
     have:¬ j % 2=0:=fun h=>by rw[h] at hc;cases hc
     omega
    rw[cond_false,q6c t j,hc,cond_false,if_neg (by omega)]
   ·have h2:j % 2=0:=yyg hc;rw[cond_true,q62 ha hd,q6c t j,hc,cond_true];by_cases e:j=i
    ·rw[if_pos e,if_pos (by rw[e])]
    ·rw[if_neg e,if_neg (by omega)]
def Tr.cut(t:Tr)(n:Nat):Nat→RV:=@Nat.rec (fun _=>Nat→RV) (fun _=>.nil) (fun _ ih i=>.cons (t.get i) (ih (Nat.succ i))) n
def z05(t:Tr)(n i:Nat):t.cut (n+1) i=.cons (t.get i) (t.cut n (i+1)):=rfl
def Tr.put(d:Nat)(r:RV):Tr→Nat→Tr:=@RV.rec (fun _=>Tr→Nat→Tr) (fun _ _ t _=>t) (fun _ t _=>t) (fun t _=>t) (fun t _=>t) (fun t _=>t) (fun t _=>t) (fun t _=>t) (fun _ _ t _=>t) (fun _ _ _ _ t _=>t) (fun _ _ _ _ _ _ t _=>t) (fun _ t _=>t) (fun _ t _=>t) (fun _ t _=>t) (fun _ _ _ _ _ t _=>t) (fun _ _ t _=>t) (fun _ _ t _=>t) (fun t _=>t) (fun a _ _ ih t i=>ih (Tr.set d t i a) (Nat.succ i)) r
def Tr.put_c(d:Nat)(a r:RV)(t:Tr)(i:Nat):Tr.put d (.cons a r) t i=Tr.put d r (Tr.set d t i a) (i+1):=rfl
def RV.len(r:RV):Nat:=@RV.rec (fun _=>Nat) (fun _ _=>0) (fun _=>0) (0) (0) (0) (0) (0) (fun _ _=>0) (fun _ _ _ _=>0) (fun _ _ _ _ _ _=>0) (fun _=>0) (fun _=>0) (fun _=>0) (fun _ _ _ _ _=>0) (fun _ _=>0) (fun _ _=>0) (0) (fun _ _ _ ih=>Nat.succ ih) r
def o5(a r:RV):(RV.cons a r).len=r.len+1:=rfl
def RV.nth(r:RV):Nat→RV:=@RV.rec (fun _=>Nat→RV) (fun _ _ _=>.u) (fun _ _=>.u) (fun _=>.u) (fun _=>.u) (fun _=>.u) (fun _=>.u) (fun _=>.u) (fun _ _ _=>.u) (fun _ _ _ _ _=>.u) (fun _ _ _ _ _ _ _=>.u) (fun _ _=>.u) (fun _ _=>.u) (fun _ _=>.u) (fun _ _ _ _ _ _=>.u) (fun _ _ _=>.u) (fun _ _ _=>.u) (fun _=>.u) (fun a _ _ ih k=>@Nat.rec (fun _=>RV) a (fun j _=>ih j) k) r
def q7z(a r:RV)(k:Nat):(RV.cons a r).nth (k+1)=r.nth k:=rfl
def j7(ρ:Env):∀ r:RV,(r.cl ρ).length=r.len
 |.cons a r=>by rw[o5,RV.cl,List.length_cons,j7 ρ r]
 |.i ..|.b _|.np|.ns|.fz|.nm|.u|.nil|.p ..|.s ..|.m _|.it _|.y _|.o ..|.f ..|.g _|.t _=>rfl
def q07(ρ:Env):∀ {r:RV} {i:Nat},i<r.len→(r.cl ρ)[i]?=some ((r.nth i).cv ρ)
 |.cons a r,0,_=>rfl
 |.cons a r,q+1,h=>by rw[q7z,RV.cl,yxi];exact q07 ρ (by rw[o5] at h;omega)
 |.i ..,_,h|.b _,_,h|.np,_,h|.ns,_,h|.fz,_,h|.nm,_,h|.u,_,h|.nil,_,h|.p ..,_,h|.s ..,_,h|.m _,_,h|.it _,_,h|.y _,_,h|.o ..,_,h|.f ..,_,h|.g _,_,h|.t _,_,h=>absurd h (Nat.not_lt_zero _)
def t8{n:Nat}:∀ {r:RV} {i:Nat},r.bd n→(r.nth i).bd n
 |.cons a r,0,h=>h.1
 |.cons a r,q+1,h=>t8 (r:=r) h.2
 |.i ..,_,_|.b _,_,_|.np,_,_|.ns,_,_|.fz,_,_|.nm,_,_|.u,_,_|.nil,_,_|.p ..,_,_|.s ..,_,_|.m _,_,_|.it _,_,_|.y _,_,_|.o ..,_,_|.f ..,_,_|.g _,_,_|.t _,_,_=>trivial
def q0v(t:Tr):∀ n i,(t.cut n i).len=n
 |0,_=>rfl
 |n+1,i=>by rw[z05,o5,q0v t n (i+1)]
def q9t(t:Tr):∀ {n i j:Nat},j<n→(t.cut n i).nth j=t.get (i+j)
 |n+1,i,0,_=>rfl
 |n+1,i,j+1,h=>by rw[z05,q7z,q9t t (by omega)];congr 1;omega
def q6e{t:Tr}{m:Nat}:∀ {n i:Nat},(∀ j,i≤j→j<i+n→(t.get j).bd m)→(t.cut n i).bd m
 |0,_,_=>trivial
 |n+1,i,h=>⟨h i (yyl _) (by omega),q6e fun j h1 h2=>h j (by omega) (by omega)⟩
def s5{d:Nat}:∀ {r:RV} {t:Tr} {i j:Nat},i+r.len≤2 ^ d→j<2 ^ d→(Tr.put d r t i).get j=if i≤j∧j<i+r.len then r.nth (j-i) else t.get j
 |.cons a r,t,i,j,h,hj=>by
  have hl:(RV.cons a r).len=r.len+1:=rfl;rw[hl] at h;rw[Tr.put_c,s5 (by omega) hj,q62 (by omega) hj];by_cases e:j=i
  ·subst e;rw[if_neg (by omega),if_pos rfl,if_pos (by omega),Nat.sub_self];rfl
  ·rw[if_neg e];by_cases e2:i+1≤j∧j<i+1+r.len
   ·rw[if_pos e2,if_pos (by omega),show j-i=(j-(i+1))+1 by omega];rfl
   ·rw[if_neg e2,if_neg (by omega)]
 |.i ..,t,i,j,_,_|.b _,t,i,j,_,_|.np,t,i,j,_,_|.ns,t,i,j,_,_|.fz,t,i,j,_,_|.nm,t,i,j,_,_|.u,t,i,j,_,_|.nil,t,i,j,_,_|.p ..,t,i,j,_,_|.s ..,t,i,j,_,_
 |.m _,t,i,j,_,_|.it _,t,i,j,_,_|.y _,t,i,j,_,_|.o ..,t,i,j,_,_|.f ..,t,i,j,_,_|.g _,t,i,j,_,_|.t _,t,i,j,_,_=>by rw[if_neg (fun h=>absurd (Nat.lt_of_le_of_lt h.1 h.2) (Nat.lt_irrefl _))];rfl
def RV.alike(v r:RV):Bool:=@RV.rec (fun _=>Bool) (fun _ _=>true) (fun _=>true) (true) (true) (true) (true) (true) (fun _ _=>true) (fun _ _ _ _=>true) (fun _ _ _ _ _ _=>true) (fun _=>true) (fun _=>true) (fun _=>true) (fun _ _ _ _ _=>true) (fun _ _=>true) (fun _ _=>true) (true) (fun a _ _ ih=>bAnd (v.eqb a) ih) r
def q7h{v:RV}:∀ {r:RV} {i:Nat},v.alike r=true→i<r.len→r.nth i=v
 |.cons a r,0,h,_=>(m9 (v5.1 (show bAnd (v.eqb a) (v.alike r)=true from h)).1).symm
 |.cons a r,q+1,h,hi=>q7h (r:=r) (v5.1 (show bAnd (v.eqb a) (v.alike r)=true from h)).2 (by rw[o5] at hi;omega)
 |.i ..,_,_,h|.b _,_,_,h|.np,_,_,h|.ns,_,_,h|.fz,_,_,h|.nm,_,_,h|.u,_,_,h|.nil,_,_,h|.p ..,_,_,h|.s ..,_,_,h|.m _,_,_,h|.it _,_,_,h|.y _,_,_,h|.o ..,_,_,h|.f ..,_,_,h|.g _,_,_,h|.t _,_,_,h=>absurd h (Nat.not_lt_zero _)
def Tr.ofL(d:Nat)(r:RV):Tr:=
 match r with
 |.cons a b=>bif a.alike b then .lf a else Tr.put d (.cons a b) (.lf a) 0
 |_=>.lf .u
def q63{r:RV}{i:Nat}(h:r.len≤2 ^ d)(hi:i<r.len):(Tr.ofL d r).get i=r.nth i:=by
 unfold Tr.ofL;split
 ·rename_i a b;cases ha:RV.alike a b
  ·rw[cond_false,s5 (by omega) (by omega),if_pos (by omega),Nat.sub_zero]
  ·rw[cond_true];cases i with
   |zero=>rfl
   |succ i=>rw[o5] at hi;exact(q7h ha (by omega)).symm
 ·rename_i hn;cases r<;>first|(exact absurd rfl (hn _ _))|(exact absurd hi (Nat.not_lt_zero _))
inductive N8(β:Type)
 |e
 |n (a0 a1 a2 a3 a4 a5 a6 a7:β)
section
variable {β α:Type}
def N8.vals(z:β):N8 β→List β
 |.e=>[z,z,z,z,z,z,z,z]
 |.n a0 a1 a2 a3 a4 a5 a6 a7=>[a0,a1,a2,a3,a4,a5,a6,a7]
inductive Bx(α:Type)
 |mk (a:α)
def Bx.out:Bx α→α
 |.mk a=>a
def nthB(d:α)(l:List α):Nat→α:=@List.rec _ (fun _=>Nat→α) (fun _=>d) (fun a _ ih n=>@Nat.rec (fun _=>α) a (fun k _=>ih k) n) l
def g8_(z:β):Bx (N8 β→β):=.mk fun _=>z
def p8_:Bx ((β→β)→N8 β→N8 β):=.mk fun _ t=>t
def tg8(z:β):List (Bx (N8 β→β)):=[.mk fun t=>@N8.rec _ (fun _=>β) z (fun a0 a1 a2 a3 a4 a5 a6 a7=>a0) t,
 .mk fun t=>@N8.rec _ (fun _=>β) z (fun a0 a1 a2 a3 a4 a5 a6 a7=>a1) t,
 .mk fun t=>@N8.rec _ (fun _=>β) z (fun a0 a1 a2 a3 a4 a5 a6 a7=>a2) t,
 .mk fun t=>@N8.rec _ (fun _=>β) z (fun a0 a1 a2 a3 a4 a5 a6 a7=>a3) t,
 .mk fun t=>@N8.rec _ (fun _=>β) z (fun a0 a1 a2 a3 a4 a5 a6 a7=>a4) t,
 .mk fun t=>@N8.rec _ (fun _=>β) z (fun a0 a1 a2 a3 a4 a5 a6 a7=>a5) t,
 .mk fun t=>@N8.rec _ (fun _=>β) z (fun a0 a1 a2 a3 a4 a5 a6 a7=>a6) t,
 .mk fun t=>@N8.rec _ (fun _=>β) z (fun a0 a1 a2 a3 a4 a5 a6 a7=>a7) t]
def tp8(z:β):List (Bx ((β→β)→N8 β→N8 β)):=[.mk fun f t=>@N8.rec _ (fun _=>(β→β)→N8 β) (fun f=>.n (f z) z z z z z z z) (fun a0 a1 a2 a3 a4 a5 a6 a7 f=>.n (f a0) a1 a2 a3 a4 a5 a6 a7) t f,
 .mk fun f t=>@N8.rec _ (fun _=>(β→β)→N8 β) (fun f=>.n z (f z) z z z z z z) (fun a0 a1 a2 a3 a4 a5 a6 a7 f=>.n a0 (f a1) a2 a3 a4 a5 a6 a7) t f,
 .mk fun f t=>@N8.rec _ (fun _=>(β→β)→N8 β) (fun f=>.n z z (f z) z z z z z) (fun a0 a1 a2 a3 a4 a5 a6 a7 f=>.n a0 a1 (f a2) a3 a4 a5 a6 a7) t f,
 .mk fun f t=>@N8.rec _ (fun _=>(β→β)→N8 β) (fun f=>.n z z z (f z) z z z z) (fun a0 a1 a2 a3 a4 a5 a6 a7 f=>.n a0 a1 a2 (f a3) a4 a5 a6 a7) t f,
 .mk fun f t=>@N8.rec _ (fun _=>(β→β)→N8 β) (fun f=>.n z z z z (f z) z z z) (fun a0 a1 a2 a3 a4 a5 a6 a7 f=>.n a0 a1 a2 a3 (f a4) a5 a6 a7) t f,
 .mk fun f t=>@N8.rec _ (fun _=>(β→β)→N8 β) (fun f=>.n z z z z z (f z) z z) (fun a0 a1 a2 a3 a4 a5 a6 a7 f=>.n a0 a1 a2 a3 a4 (f a5) a6 a7) t f,
 .mk fun f t=>@N8.rec _ (fun _=>(β→β)→N8 β) (fun f=>.n z z z z z z (f z) z) (fun a0 a1 a2 a3 a4 a5 a6 a7 f=>.n a0 a1 a2 a3 a4 a5 (f a6) a7) t f,
 .mk fun f t=>@N8.rec _ (fun _=>(β→β)→N8 β) (fun f=>.n z z z z z z z (f z)) (fun a0 a1 a2 a3 a4 a5 a6 a7 f=>.n a0 a1 a2 a3 a4 a5 a6 (f a7)) t f]
def g8_ok(i:Nat)(z:β)(t:N8 β):(nthB (g8_ z) (tg8 z) i).out t=(t.vals z).getD i z:=by
 match i with
 |0|1|2|3|4|5|6|7=>cases t<;>rfl
 |k+8=>cases t<;>rfl
def p8_ok(i:Nat)(z:β)(f:β→β)(t:N8 β):((nthB p8_ (tp8 z) i).out f t).vals z=(t.vals z).set i (f ((t.vals z).getD i z)):=by
 match i with
 |0|1|2|3|4|5|6|7=>cases t<;>rfl
 |k+8=>cases t<;>rfl
def q90(z:β)(t:N8 β):(t.vals z).length=8:=by cases t<;>rfl
def q52{l:List β}{i j:Nat}{x z:β}:(l.set i x).getD j z=if i=j∧i<l.length then x else l.getD j z:=by
 simp only[yyq,List.getElem?_set];by_cases h:i=j
 ·subst h;by_cases hl:i<l.length
  ·simp[hl]
  ·simp[hl]
 ·simp[h]
end
inductive N16(β:Type)
 |e
 |n (a0 a1 a2 a3 a4 a5 a6 a7 a8 a9 a10 a11 a12 a13 a14 a15:β)
section
variable {β α:Type}
def N16.vals(z:β):N16 β→List β
 |.e=>[z,z,z,z,z,z,z,z,z,z,z,z,z,z,z,z]
 |.n a0 a1 a2 a3 a4 a5 a6 a7 a8 a9 a10 a11 a12 a13 a14 a15=>[a0,a1,a2,a3,a4,a5,a6,a7,a8,a9,a10,a11,a12,a13,a14,a15]
def g16_(z:β):Bx (N16 β→β):=.mk fun _=>z
def p16_:Bx ((β→β)→N16 β→N16 β):=.mk fun _ t=>t
def tg16(z:β):List (Bx (N16 β→β)):=[.mk fun t=>@N16.rec _ (fun _=>β) z (fun a0 a1 a2 a3 a4 a5 a6 a7 a8 a9 a10 a11 a12 a13 a14 a15=>a0) t,
 .mk fun t=>@N16.rec _ (fun _=>β) z (fun a0 a1 a2 a3 a4 a5 a6 a7 a8 a9 a10 a11 a12 a13 a14 a15=>a1) t,
 .mk fun t=>@N16.rec _ (fun _=>β) z (fun a0 a1 a2 a3 a4 a5 a6 a7 a8 a9 a10 a11 a12 a13 a14 a15=>a2) t,
 .mk fun t=>@N16.rec _ (fun _=>β) z (fun a0 a1 a2 a3 a4 a5 a6 a7 a8 a9 a10 a11 a12 a13 a14 a15=>a3) t,
 .mk fun t=>@N16.rec _ (fun _=>β) z (fun a0 a1 a2 a3 a4 a5 a6 a7 a8 a9 a10 a11 a12 a13 a14 a15=>a4) t,
 .mk fun t=>@N16.rec _ (fun _=>β) z (fun a0 a1 a2 a3 a4 a5 a6 a7 a8 a9 a10 a11 a12 a13 a14 a15=>a5) t,
 .mk fun t=>@N16.rec _ (fun _=>β) z (fun a0 a1 a2 a3 a4 a5 a6 a7 a8 a9 a10 a11 a12 a13 a14 a15=>a6) t,
 .mk fun t=>@N16.rec _ (fun _=>β) z (fun a0 a1 a2 a3 a4 a5 a6 a7 a8 a9 a10 a11 a12 a13 a14 a15=>a7) t,
 .mk fun t=>@N16.rec _ (fun _=>β) z (fun a0 a1 a2 a3 a4 a5 a6 a7 a8 a9 a10 a11 a12 a13 a14 a15=>a8) t,
 .mk fun t=>@N16.rec _ (fun _=>β) z (fun a0 a1 a2 a3 a4 a5 a6 a7 a8 a9 a10 a11 a12 a13 a14 a15=>a9) t,
 .mk fun t=>@N16.rec _ (fun _=>β) z (fun a0 a1 a2 a3 a4 a5 a6 a7 a8 a9 a10 a11 a12 a13 a14 a15=>a10) t,
 .mk fun t=>@N16.rec _ (fun _=>β) z (fun a0 a1 a2 a3 a4 a5 a6 a7 a8 a9 a10 a11 a12 a13 a14 a15=>a11) t,
 .mk fun t=>@N16.rec _ (fun _=>β) z (fun a0 a1 a2 a3 a4 a5 a6 a7 a8 a9 a10 a11 a12 a13 a14 a15=>a12) t,
 .mk fun t=>@N16.rec _ (fun _=>β) z (fun a0 a1 a2 a3 a4 a5 a6 a7 a8 a9 a10 a11 a12 a13 a14 a15=>a13) t,
 .mk fun t=>@N16.rec _ (fun _=>β) z (fun a0 a1 a2 a3 a4 a5 a6 a7 a8 a9 a10 a11 a12 a13 a14 a15=>a14) t,
 .mk fun t=>@N16.rec _ (fun _=>β) z (fun a0 a1 a2 a3 a4 a5 a6 a7 a8 a9 a10 a11 a12 a13 a14 a15=>a15) t]
def tp16(z:β):List (Bx ((β→β)→N16 β→N16 β)):=[.mk fun f t=>@N16.rec _ (fun _=>(β→β)→N16 β) (fun f=>.n (f z) z z z z z z z z z z z z z z z) (fun a0 a1 a2 a3 a4 a5 a6 a7 a8 a9 a10 a11 a12 a13 a14 a15 f=>.n (f a0) a1 a2 a3 a4 a5 a6 a7 a8 a9 a10 a11 a12 a13 a14 a15) t f,
 .mk fun f t=>@N16.rec _ (fun _=>(β→β)→N16 β) (fun f=>.n z (f z) z z z z z z z z z z z z z z) (fun a0 a1 a2 a3 a4 a5 a6 a7 a8 a9 a10 a11 a12 a13 a14 a15 f=>.n a0 (f a1) a2 a3 a4 a5 a6 a7 a8 a9 a10 a11 a12 a13 a14 a15) t f,
 .mk fun f t=>@N16.rec _ (fun _=>(β→β)→N16 β) (fun f=>.n z z (f z) z z z z z z z z z z z z z) (fun a0 a1 a2 a3 a4 a5 a6 a7 a8 a9 a10 a11 a12 a13 a14 a15 f=>.n a0 a1 (f a2) a3 a4 a5 a6 a7 a8 a9 a10 a11 a12 a13 a14 a15) t f,
 .mk fun f t=>@N16.rec _ (fun _=>(β→β)→N16 β) (fun f=>.n z z z (f z) z z z z z z z z z z z z) (fun a0 a1 a2 a3 a4 a5 a6 a7 a8 a9 a10 a11 a12 a13 a14 a15 f=>.n a0 a1 a2 (f a3) a4 a5 a6 a7 a8 a9 a10 a11 a12 a13 a14 a15) t f,
 .mk fun f t=>@N16.rec _ (fun _=>(β→β)→N16 β) (fun f=>.n z z z z (f z) z z z z z z z z z z z) (fun a0 a1 a2 a3 a4 a5 a6 a7 a8 a9 a10 a11 a12 a13 a14 a15 f=>.n a0 a1 a2 a3 (f a4) a5 a6 a7 a8 a9 a10 a11 a12 a13 a14 a15) t f,
 .mk fun f t=>@N16.rec _ (fun _=>(β→β)→N16 β) (fun f=>.n z z z z z (f z) z z z z z z z z z z) (fun a0 a1 a2 a3 a4 a5 a6 a7 a8 a9 a10 a11 a12 a13 a14 a15 f=>.n a0 a1 a2 a3 a4 (f a5) a6 a7 a8 a9 a10 a11 a12 a13 a14 a15) t f,
 .mk fun f t=>@N16.rec _ (fun _=>(β→β)→N16 β) (fun f=>.n z z z z z z (f z) z z z z z z z z z) (fun a0 a1 a2 a3 a4 a5 a6 a7 a8 a9 a10 a11 a12 a13 a14 a15 f=>.n a0 a1 a2 a3 a4 a5 (f a6) a7 a8 a9 a10 a11 a12 a13 a14 a15) t f,
 .mk fun f t=>@N16.rec _ (fun _=>(β→β)→N16 β) (fun f=>.n z z z z z z z (f z) z z z z z z z z) (fun a0 a1 a2 a3 a4 a5 a6 a7 a8 a9 a10 a11 a12 a13 a14 a15 f=>.n a0 a1 a2 a3 a4 a5 a6 (f a7) a8 a9 a10 a11 a12 a13 a14 a15) t f,
 .mk fun f t=>@N16.rec _ (fun _=>(β→β)→N16 β) (fun f=>.n z z z z z z z z (f z) z z z z z z z) (fun a0 a1 a2 a3 a4 a5 a6 a7 a8 a9 a10 a11 a12 a13 a14 a15 f=>.n a0 a1 a2 a3 a4 a5 a6 a7 (f a8) a9 a10 a11 a12 a13 a14 a15) t f,
 .mk fun f t=>@N16.rec _ (fun _=>(β→β)→N16 β) (fun f=>.n z z z z z z z z z (f z) z z z z z z) (fun a0 a1 a2 a3 a4 a5 a6 a7 a8 a9 a10 a11 a12 a13 a14 a15 f=>.n a0 a1 a2 a3 a4 a5 a6 a7 a8 (f a9) a10 a11 a12 a13 a14 a15) t f,
 .mk fun f t=>@N16.rec _ (fun _=>(β→β)→N16 β) (fun f=>.n z z z z z z z z z z (f z) z z z z z) (fun a0 a1 a2 a3 a4 a5 a6 a7 a8 a9 a10 a11 a12 a13 a14 a15 f=>.n a0 a1 a2 a3 a4 a5 a6 a7 a8 a9 (f a10) a11 a12 a13 a14 a15) t f,
 .mk fun f t=>@N16.rec _ (fun _=>(β→β)→N16 β) (fun f=>.n z z z z z z z z z z z (f z) z z z z) (fun a0 a1 a2 a3 a4 a5 a6 a7 a8 a9 a10 a11 a12 a13 a14 a15 f=>.n a0 a1 a2 a3 a4 a5 a6 a7 a8 a9 a10 (f a11) a12 a13 a14 a15) t f,
 .mk fun f t=>@N16.rec _ (fun _=>(β→β)→N16 β) (fun f=>.n z z z z z z z z z z z z (f z) z z z) (fun a0 a1 a2 a3 a4 a5 a6 a7 a8 a9 a10 a11 a12 a13 a14 a15 f=>.n a0 a1 a2 a3 a4 a5 a6 a7 a8 a9 a10 a11 (f a12) a13 a14 a15) t f,
 .mk fun f t=>@N16.rec _ (fun _=>(β→β)→N16 β) (fun f=>.n z z z z z z z z z z z z z (f z) z z) (fun a0 a1 a2 a3 a4 a5 a6 a7 a8 a9 a10 a11 a12 a13 a14 a15 f=>.n a0 a1 a2 a3 a4 a5 a6 a7 a8 a9 a10 a11 a12 (f a13) a14 a15) t f,
 .mk fun f t=>@N16.rec _ (fun _=>(β→β)→N16 β) (fun f=>.n z z z z z z z z z z z z z z (f z) z) (fun a0 a1 a2 a3 a4 a5 a6 a7 a8 a9 a10 a11 a12 a13 a14 a15 f=>.n a0 a1 a2 a3 a4 a5 a6 a7 a8 a9 a10 a11 a12 a13 (f a14) a15) t f,
 .mk fun f t=>@N16.rec _ (fun _=>(β→β)→N16 β) (fun f=>.n z z z z z z z z z z z z z z z (f z)) (fun a0 a1 a2 a3 a4 a5 a6 a7 a8 a9 a10 a11 a12 a13 a14 a15 f=>.n a0 a1 a2 a3 a4 a5 a6 a7 a8 a9 a10 a11 a12 a13 a14 (f a15)) t f]
def j0z(i:Nat)(z:β)(t:N16 β):(nthB (g16_ z) (tg16 z) i).out t=(t.vals z).getD i z:=by
 match i with
 |0|1|2|3|4|5|6|7|8|9|10|11|12|13|14|15=>cases t<;>rfl
 |k+16=>cases t<;>rfl
def z9e(i:Nat)(z:β)(f:β→β)(t:N16 β):((nthB p16_ (tp16 z) i).out f t).vals z=(t.vals z).set i (f ((t.vals z).getD i z)):=by
 match i with
 |0|1|2|3|4|5|6|7|8|9|10|11|12|13|14|15=>cases t<;>rfl
 |k+16=>cases t<;>rfl
def q1j(z:β)(t:N16 β):(t.vals z).length=16:=by cases t<;>rfl
def q42(z:β)(k:Nat):((N16.e:N16 β).vals z).getD k z=z:=by
 match k with
 |0|1|2|3|4|5|6|7|8|9|10|11|12|13|14|15=>rfl
 |k+16=>rfl
end
section
variable {β α:Type}
abbrev G3(α:Type):=N16 (N8 (N8 α))
def G3.get(z:α)(t:G3 α)(i:Nat):α:=(((((t.vals .e).getD (i / 64) .e).vals .e).getD (i / 8 % 8) .e).vals z).getD (i % 8) z
def gg3(f2:N16 (N8 (N8 α))→N8 (N8 α))(f1:N8 (N8 α)→N8 α)(f0:N8 α→α)(t:G3 α):α:=f0 (f1 (f2 t))
def kst(v:α)(_:α):α:=v
def pp3(f2:(N8 (N8 α)→N8 (N8 α))→G3 α→G3 α)(f1:(N8 α→N8 α)→N8 (N8 α)→N8 (N8 α))(f0:(α→α)→N8 α→N8 α)(v:α)(t:G3 α):G3 α:=f2 (f1 (f0 (kst v))) t
def cg3(z:α)(i:Nat):Bx (G3 α→α):=@Bx.rec _ (fun _=>Bx (G3 α→α)) (fun f2=>@Bx.rec _ (fun _=>Bx (G3 α→α)) (fun f1=>@Bx.rec _ (fun _=>Bx (G3 α→α)) (fun f0=>.mk (gg3 f2 f1 f0)) (nthB (g8_ z) (tg8 z) (Nat.mod i 8))) (nthB (g8_ .e) (tg8 .e) (Nat.mod (Nat.div i 8) 8))) (nthB (g16_ .e) (tg16 .e) (Nat.div i 64))
def cp3(z:α)(i:Nat):Bx (α→G3 α→G3 α):=@Bx.rec _ (fun _=>Bx (α→G3 α→G3 α)) (fun f2=>@Bx.rec _ (fun _=>Bx (α→G3 α→G3 α)) (fun f1=>@Bx.rec _ (fun _=>Bx (α→G3 α→G3 α)) (fun f0=>.mk (pp3 f2 f1 f0)) (nthB p8_ (tp8 z) (Nat.mod i 8))) (nthB p8_ (tp8 .e) (Nat.mod (Nat.div i 8) 8))) (nthB p16_ (tp16 .e) (Nat.div i 64))
def cg3_ok(z:α)(i:Nat)(t:G3 α):(cg3 z i).out t=t.get z i:=by
 have h:(cg3 z i).out t=(nthB (g8_ z) (tg8 z) (i % 8)).out ((nthB (g8_ .e) (tg8 .e) (i / 8 % 8)).out ((nthB (g16_ .e) (tg16 .e) (i / 64)).out t)):=by unfold cg3;simp only[show Nat.mod i 8=i % 8 from rfl,show Nat.mod (Nat.div i 8) 8=i / 8 % 8 from rfl,show Nat.div i 64=i / 64 from rfl];generalize nthB (g16_ (.e:N8 (N8 α))) (tg16 .e) (i / 64)=b2;generalize nthB (g8_ (.e:N8 α)) (tg8 .e) (i / 8 % 8)=b1;generalize nthB (g8_ z) (tg8 z) (i % 8)=b0;cases b2;cases b1;cases b0;rfl
 rw[h,j0z,g8_ok,g8_ok];rfl
def cp3_get(z:α)(i j:Nat)(v:α)(t:G3 α):((cp3 z i).out v t).get z j=if i=j∧i<1024 then v else t.get z j:=by
 have h:(cp3 z i).out v t=(nthB p16_ (tp16 .e) (i / 64)).out ((nthB p8_ (tp8 .e) (i / 8 % 8)).out ((nthB p8_ (tp8 z) (i % 8)).out (kst v))) t:=by unfold cp3;simp only[show Nat.mod i 8=i % 8 from rfl,show Nat.mod (Nat.div i 8) 8=i / 8 % 8 from rfl,show Nat.div i 64=i / 64 from rfl];generalize nthB p16_ (tp16 (.e:N8 (N8 α))) (i / 64)=b2;generalize nthB p8_ (tp8 (.e:N8 α)) (i / 8 % 8)=b1;generalize nthB p8_ (tp8 z) (i % 8)=b0;cases b2;cases b1;cases b0;rfl
 rw[h];unfold G3.get;rw[z9e,q52,q1j];by_cases h2:i / 64=j / 64∧i / 64<16
 ·rw[if_pos h2,p8_ok,q52,q90,h2.1];by_cases h1:i / 8 % 8=j / 8 % 8∧i / 8 % 8<8
  ·rw[if_pos h1,p8_ok,q52,q90,h1.1];by_cases h0:i % 8=j % 8∧i % 8<8
   ·rw[if_pos h0,if_pos (by omega)];rfl
   ·rw[if_neg h0,if_neg (by omega)]
  ·rw[if_neg h1,if_neg (by omega)]
 ·rw[if_neg h2,if_neg (by omega)]
def q2n(z:α){t:G3 α}(h:¬ d<1024):t.get z d=z:=by
 unfold G3.get;have:(t.vals .e).getD (d / 64) .e=.e:=by rw[yyq,yxe (by rw[q1j];omega)];rfl
 rw[this];have:((N8.e:N8 (N8 α)).vals .e).getD (d / 8 % 8) .e=.e:=by
  have:d / 8 % 8<8:=Nat.mod_lt _ (by omega);generalize d / 8 % 8=k at this
  match k,this with
  |0,_|1,_|2,_|3,_|4,_|5,_|6,_|7,_=>rfl
 rw[this];have:d % 8<8:=Nat.mod_lt _ (by omega);generalize d % 8=k at this
 match k,this with
 |0,_|1,_|2,_|3,_|4,_|5,_|6,_|7,_=>rfl
def G3.ent(z:α)(p:α→Bool)(t:G3 α)(d:Nat):Option (Nat×α):=bif p (t.get z d) then none else some (d,t.get z d)
def G3.toL(z:α)(p:α→Bool)(t:G3 α):List (Nat×α):=(List.range 1024).filterMap (G3.ent z p t)
variable {z:α}{p:α→Bool}{t:G3 α}
def q86:∀ (ds:List Nat) (d:Nat) (v:α),lk (ds.filterMap (G3.ent z p t)) d=some v→t.get z d=v∧p v=false
 |[],d,v,h=>by simp[lk] at h
 |k::r,d,v,h=>by
  rw[List.filterMap_cons] at h;cases hk:p (t.get z k)
  ·have e:G3.ent z p t k=some (k,t.get z k):=by simp[G3.ent,hk]
   rw[e] at h;simp only[lk] at h;by_cases hd:k=d
   ·rw[if_pos hd] at h;simp only[yya] at h;subst h;subst hd;exact⟨rfl,hk⟩
   ·rw[if_neg hd] at h;exact q86 r d v h
  ·have e:G3.ent z p t k=none:=by simp[G3.ent,hk]
   rw[e] at h;exact q86 r d v h
def q87(d:Nat):∀ (ds:List Nat),d∈ds→p (t.get z d)=false→lk (ds.filterMap (G3.ent z p t)) d=some (t.get z d)
 |k::r,h,hn=>by
  rw[List.filterMap_cons];by_cases hd:k=d
  ·subst hd;have e:G3.ent z p t k=some (k,t.get z k):=by simp[G3.ent,hn]
   rw[e];simp[lk]
  ·have hr:d∈r:=by
    rcases yyk.1 h with h|h
    ·exact absurd h.symm hd
    ·exact h
   cases hk:p (t.get z k)
   ·have e:G3.ent z p t k=some (k,t.get z k):=by simp[G3.ent,hk]
    rw[e];simp only[lk,if_neg hd];exact q87 d r hr hn
   ·have e:G3.ent z p t k=none:=by simp[G3.ent,hk]
    rw[e];exact q87 d r hr hn
def z26{v:α}(h:lk (t.toL z p) d=some v):t.get z d=v∧p v=false:=q86 _ d v h
def z27(hz:p z=true)(h:p (t.get z d)=false):lk (t.toL z p) d=some (t.get z d):=by
 refine q87 d _ ?_ h;by_cases hd:d<1024
 ·exact yy3.2 hd
 ·rw[q2n z hd,hz] at h;cases h
def z71{q:Nat×α}(hz:p z=true)(h:q∈t.toL z p):lk (t.toL z p) q.1=some q.2:=by
 have:t.get z q.1=q.2∧p q.2=false:=by
  unfold G3.toL at h;rw[List.mem_filterMap] at h;obtain⟨k,hk,e⟩:=h;unfold G3.ent at e;cases hn:p (t.get z k)
  ·rw[hn,cond_false] at e;simp only[yya] at e;subst e;exact⟨rfl,hn⟩
  ·rw[hn,cond_true] at e;cases e
 rw[z27 hz (by rw[this.1];exact this.2),this.1]
end
abbrev T2:=N16 (N16 RV)
def T2.get(t:T2)(d:Nat):RV:=((((t.vals .e).getD (d / 16) .e).vals .nil).getD (d % 16) .nil)
def gg2(f1:N16 (N16 RV)→N16 RV)(f0:N16 RV→RV)(t:T2):RV:=f0 (f1 t)
def pp2(f1:(N16 RV→N16 RV)→T2→T2)(f0:(RV→RV)→N16 RV→N16 RV)(v:RV)(t:T2):T2:=f1 (f0 (kst v)) t
def ct(d:Nat):Bx (T2→RV):=@Bx.rec _ (fun _=>Bx (T2→RV)) (fun f1=>@Bx.rec _ (fun _=>Bx (T2→RV)) (fun f0=>.mk (gg2 f1 f0)) (nthB (g16_ .nil) (tg16 .nil) (Nat.mod d 16))) (nthB (g16_ .e) (tg16 .e) (Nat.div d 16))
def pt(d:Nat):Bx (RV→T2→T2):=@Bx.rec _ (fun _=>Bx (RV→T2→T2)) (fun f1=>@Bx.rec _ (fun _=>Bx (RV→T2→T2)) (fun f0=>.mk (pp2 f1 f0)) (nthB p16_ (tp16 .nil) (Nat.mod d 16))) (nthB p16_ (tp16 .e) (Nat.div d 16))
def ct_ok(d:Nat)(t:T2):(ct d).out t=t.get d:=by
 have h:(ct d).out t=(nthB (g16_ .nil) (tg16 .nil) (d % 16)).out ((nthB (g16_ .e) (tg16 .e) (d / 16)).out t):=by unfold ct;simp only[show Nat.mod d 16=d % 16 from rfl,show Nat.div d 16=d / 16 from rfl];generalize nthB (g16_ (.e:N16 RV)) (tg16 .e) (d / 16)=b1;generalize nthB (g16_ RV.nil) (tg16 .nil) (d % 16)=b0;cases b1;cases b0;rfl
 rw[h,j0z,j0z];rfl
def z1t(d e:Nat)(v:RV)(t:T2):T2.get ((pt d).out v t) e=if d=e∧d<256 then v else t.get e:=by
 have h:(pt d).out v t=(nthB p16_ (tp16 .e) (d / 16)).out ((nthB p16_ (tp16 .nil) (d % 16)).out (kst v)) t:=by unfold pt;simp only[show Nat.mod d 16=d % 16 from rfl,show Nat.div d 16=d / 16 from rfl];generalize nthB p16_ (tp16 (.e:N16 RV)) (d / 16)=b1;generalize nthB p16_ (tp16 RV.nil) (d % 16)=b0;cases b1;cases b0;rfl
 rw[h];unfold T2.get;rw[z9e,q52,q1j];by_cases h1:d / 16=e / 16∧d / 16<16
 ·rw[if_pos h1,z9e,q52,q1j,h1.1];by_cases h0:d % 16=e % 16∧d % 16<16
  ·rw[if_pos h0,if_pos (by omega)];rfl
  ·rw[if_neg h0,if_neg (by omega)]
 ·rw[if_neg h1,if_neg (by omega)]
inductive Sk
 |e
 |c (v:RV) (r:Sk)
def Sk.nth:Sk→Nat→RV
 |.e,_=>.nil
 |.c v _,0=>v
 |.c _ r,k+1=>r.nth k
inductive Lc
 |k (pos:Nat)
 |c (v:RV)
 |r (q:Nat)
structure Rg where
 g:Nat
 h:Nat
 ε:List (Nat×Lc)
 T:Sk
 t:T2
def isNl:RV→Bool
 |.nil=>true
 |_=>false
def bitB(g d:Nat):Bool:=Nat.beq (Nat.mod (Nat.shiftRight g d) 2) 1
def trg(g:Nat)(t:T2)(d:Nat):RV:=bif bitB g d then t.get d else .nil
def lcv(g h:Nat)(T:Sk)(t:T2):Lc→RV
 |.k pos=>bif Nat.blt pos h then T.nth (h-1-pos) else .nil
 |.c v=>v
 |.r q=>trg g t q
def Rg.get(L:Rg)(d:Nat):RV:=bif Nat.blt d 512 then(match lk L.ε d with
 |some x=>lcv L.g L.h L.T L.t x
 |none=>trg L.g L.t d) else .nil
def Rg.e:Rg:=⟨0,0,[],.e,.e⟩
def q6v{L:Rg}(h:¬ d<512):L.get d=.nil:=by
 unfold Rg.get;have:Nat.blt d 512=false:=by
  cases hb:Nat.blt d 512
  ·rfl
  ·exact absurd (by simpa using hb) h
 rw[this];rfl
def entT(t:Rg)(d:Nat):Option (Nat×RV):=bif isNl (t.get d) then none else some (d,t.get d)
def Rg.toL(t:Rg):List (Nat×RV):=(List.range 512).filterMap (entT t)
def j0d(t:Rg):∀ (ds:List Nat) (d:Nat) (v:RV),lk (ds.filterMap (entT t)) d=some v→t.get d=v∧isNl v=false
 |[],d,v,h=>by simp[lk] at h
 |x::ds,d,v,h=>by
  rw[List.filterMap_cons] at h;unfold entT at h;cases hx:isNl (t.get x)
  ·rw[hx,cond_false] at h;simp only[lk] at h;split at h
   ·rename_i e;subst e;injection h with h;subst h
    exact⟨rfl,hx⟩
   ·exact j0d t ds d v h
  ·rw[hx,cond_true] at h;exact j0d t ds d v h
def ent_lk(t:Rg)(d:Nat):∀ (ds:List Nat),d∈ds→isNl (t.get d)=false→lk (ds.filterMap (entT t)) d=some (t.get d)
 |[],h,_=>by cases h
 |x::ds,h,hn=>by
  rw[List.filterMap_cons];by_cases e:x=d
  ·subst e;simp only[entT,hn,cond_false,lk,if_true]
  ·have ih:=ent_lk t d ds (by rcases yyk.1 h with h|h;exact absurd h.symm e;exact h) hn;unfold entT;cases hx:isNl (t.get x)
   ·simp only[cond_false,lk,if_neg e];exact ih
   ·exact ih
def mem_ent(t:Rg)(p:Nat×RV)(ds:List Nat)(h:p∈ds.filterMap (entT t)):t.get p.1=p.2∧isNl p.2=false∧p.1∈ds:=by
 obtain⟨x,hx,he⟩:=List.mem_filterMap.1 h;unfold entT at he;cases hn:isNl (t.get x)
 ·rw[hn,cond_false,yya] at he;subst he;exact⟨rfl,hn,hx⟩
 ·rw[hn] at he;cases he
variable{t:Rg}
def toL_lk{v:RV}(h:lk t.toL d=some v):t.get d=v∧isNl v=false:=j0d t _ d v h
def lk_toL(h:isNl (t.get d)=false):lk t.toL d=some (t.get d):=by
 refine ent_lk t d _ ?_ h;by_cases hd:d<512
 ·exact yy3.2 hd
 ·rw[q6v hd] at h;cases h
def mem_toL{p:Nat×RV}(h:p∈t.toL):lk t.toL p.1=some p.2:=by obtain⟨h1,h2,h3⟩:=mem_ent t p _ h;rw[← h1] at h2;rw[lk_toL h2,h1]
end
end Ox
namespace Ox
open Go Go.RowKit
def evS{α:Type}(P:Program):Sem α→Option α
 |.pure a=>some a
 |.program k=>evS P (k P)
 |_=>none
def w4{α:Type}{P:Program}:∀ {s:Sem α} {v:α},evS P s=some v→∀ w,s.run P w=.ok v w
 |.pure a,v,h,w=>by simp only[evS,yya] at h;subst h;simp[Sem.run]
 |.program k,v,h,w=>by simp only[evS] at h;simp only[Sem.run];exact w4 h w
 |.load ..,v,h,w=>by simp[evS] at h
 |.store ..,v,h,w=>by simp[evS] at h
 |.new ..,v,h,w=>by simp[evS] at h
 |.shape ..,v,h,w=>by simp[evS] at h
 |.freeze ..,v,h,w=>by simp[evS] at h
 |.frozen ..,v,h,w=>by simp[evS] at h
 |.getObj ..,v,h,w=>by simp[evS] at h
 |.setObj ..,v,h,w=>by simp[evS] at h
 |.choose ..,v,h,w=>by simp[evS] at h
 |.sys ..,v,h,w=>by simp[evS] at h
 |.mark ..,v,h,w=>by simp[evS] at h
 |.halt ..,v,h,w=>by simp[evS] at h
inductive RO
 |no
 |blk (ty:TypeId) (k:Option Nat) (n d:Nat) (t:Tr)
 |map (es:List (RV×RV×Nat)) (clk:Nat)
 |iter (m since:Nat) (seen:List Nat) (last:Nat) (bk:Option Nat)
 |loop (st:LoopState) (pe:Option Code) (ps:Array Tmp) (az bd:Code) (n:Nat) (L:Rg)
 |gl (g:Option Nat) (ty:TypeId) (n d:Nat) (t:Tr)
structure Hg where
 t:G3 RO
 F:List (Nat×Rg)
structure RS where
 L:List (Nat×RV)
 H:Hg
 nx:Nat
def mapR(L:List (Nat×RV)):List (Nat×AV):=L.map fun p=>(p.1,.raw p.2)
noncomputable def mapT(t:Rg):List (Nat×AV):=mapR t.toL
noncomputable def RO.toHO:RO→HO
 |.no=>.fr 0 []
 |.blk ty k n _ t=>.raw ty k n t.get
 |.map es clk=>.rmap es clk
 |.iter m since seen last bk=>.riter m since seen last bk
 |.loop st pe ps az bd n L=>.loop st pe ps az bd n (mapT L)
 |.gl g ty n _ t=>.gl g ty n t.get
def isNo:RO→Bool
 |.no=>true
 |_=>false
noncomputable def mapF:List (Nat×Rg)→List (Nat×HO)
 |[]=>[]
 |p::r=>(p.1,.fr r.length (mapT p.2))::mapF r
noncomputable def treeH(t:G3 RO):List (Nat×HO):=(G3.toL .no isNo t).map fun p=>(p.1,p.2.toHO)
noncomputable def mapH(H:Hg):List (Nat×HO):=treeH H.t++mapF H.F
noncomputable def RS.toS(s:RS):S:=⟨mapR s.L,mapH s.H,s.nx⟩
structure FS where
 L:Rg
 H:Hg
 nx:Nat
noncomputable def FS.toS(s:FS):S:=⟨mapT s.L,mapH s.H,s.nx⟩
def z30{α β:Type}(f:α→β):∀ {L:List (Nat×α)} {d:Nat},lk (L.map fun p=>(p.1,f p.2)) d=(lk L d).map f
 |[],_=>rfl
 |(k,v)::r,d=>by
  simp only[yy0,lk];split
  ·rfl
  ·exact z30 f
def q6t{L:List (Nat×RV)}:lk (mapR L) d=(lk L d).map .raw:=z30 _
noncomputable def lq(l:List (Nat×α))(n:Nat):Option α:=@List.rec _ (fun _=>Option α) none (fun p _ ih=>bif Nat.beq p.1 n then some p.2 else ih) l
def lq_eq{α:Type}:∀ {L:List (Nat×α)} {n:Nat},lq L n=lk L n
 |[],_=>rfl
 |(k,v)::r,n=>by
  show(bif Nat.beq k n then some v else lq r n)=lk ((k,v)::r) n;rw[lk];cases h:Nat.beq k n
  ·have:k≠n:=fun e=>by subst e;simp at h
   rw[if_neg this,cond_false];exact lq_eq
  ·rw[if_pos (yyg h)];rfl
inductive Cha
 |mk (f:G3 RO→RO)
inductive Chp
 |mk (f:RO→G3 RO→G3 RO)
noncomputable section
def Cha.ap(c:Cha):G3 RO→RO:=Cha.rec (motive:=fun _=>G3 RO→RO) (fun f=>f) c
def Chp.ap(c:Chp):RO→G3 RO→G3 RO:=Chp.rec (motive:=fun _=>RO→G3 RO→G3 RO) (fun f=>f) c
def hca(d:Nat):Cha:=@Bx.rec _ (fun _=>Cha) (fun f=>Cha.mk f) (cg3 (.no:RO) d)
def hcp(d:Nat):Chp:=@Bx.rec _ (fun _=>Chp) (fun f=>Chp.mk f) (cp3 (.no:RO) d)
def Hg.get(H:Hg)(l:Nat):RO:=G3.get .no H.t l
def hqO(o:RO):Option RO:=@RO.rec (fun _=>Option RO) none (fun ty k n d t=>some (.blk ty k n d t)) (fun es c=>some (.map es c)) (fun m s n l b=>some (.iter m s n l b)) (fun st pe ps az bd n L=>some (.loop st pe ps az bd n L)) (fun g ty n d t=>some (.gl g ty n d t)) o
def hq(H:Hg)(l:Nat):Option RO:=hqO ((hca l).ap H.t)
def updR(H:Hg)(l:Nat)(o:RO):Hg:=⟨(hcp l).ap o H.t,H.F⟩
def hasF(l:Nat)(F:List (Nat×Rg)):Bool:=@List.rec _ (fun _=>Bool) false (fun p _ ih=>@Bool.rec (fun _=>Bool) ih true (Nat.beq p.1 l)) F
def fltF(l:Nat)(F:List (Nat×Rg)):List (Nat×Rg):=@Bool.rec (fun _=>List (Nat×Rg)) F [] (hasF l F)
def delR(H:Hg)(l:Nat):Hg:=⟨(hcp l).ap .no H.t,fltF l H.F⟩
end
def q7c(d:Nat)(t:G3 RO):(hca d).ap t=G3.get .no t d:=by
 have h:(hca d).ap t=(cg3 .no d).out t:=by unfold hca;generalize cg3 (RO.no) d=b;cases b;rfl
 rw[h,cg3_ok]
def q2v(d e:Nat)(v:RO)(t:G3 RO):G3.get .no ((hcp d).ap v t) e=if d=e∧d<1024 then v else G3.get .no t e:=by
 have h:(hcp d).ap v t=(cp3 .no d).out v t:=by unfold hcp;generalize cp3 (RO.no) d=b;cases b;rfl
 rw[h,cp3_get]
def hqO_some{o q:RO}(h:hqO o=some q):q=o∧isNo o=false:=by cases o<;>first|(cases h;done)|(injection h with h;exact⟨h.symm,rfl⟩)
variable{o:RO}
def hqO_of(h:isNo o=false):hqO o=some o:=by cases o<;>first|rfl|cases h
variable{H:Hg}
def q05(h:hq H l=some o):H.get l=o∧isNo o=false:=by unfold hq at h;rw[q7c] at h;obtain⟨e1,e2⟩:=hqO_some h;exact⟨e1.symm,e1▸e2⟩
def q12(h:H.get l=o)(hn:isNo o=false):hq H l=some o:=by unfold hq;rw[q7c];show hqO (H.get l)=_;rw[h];exact hqO_of hn
def hq_none(h:hq H l=none):isNo (H.get l)=true:=by
 cases hn:isNo (H.get l)
 ·rw[q12 rfl hn] at h;cases h
 ·rfl
def z7f(h:hq H l=some o):l<1024:=by obtain⟨e1,e2⟩:=q05 h;refine Nat.lt_of_not_le fun hn=>?_;have:H.get l=.no:=q2n _ (by omega);rw[this] at e1;subst e1;cases e2
def q38{α:Type}:∀ {a b:List (Nat×α)} {l:Nat},lk (a++b) l=match lk a l with|some x=>some x|none=>lk b l
 |[],_,_=>rfl
 |(k,v)::r,b,l=>by
  show(if k=l then some v else lk (r++b) l)=match (if k=l then some v else lk r l) with|some x=>some x|none=>lk b l
  by_cases h:k=l
  ·rw[if_pos h,if_pos h]
  ·rw[if_neg h,if_neg h];exact q38
def lk_tree:lk (treeH H.t) l=(hq H l).map RO.toHO:=by
 unfold treeH;rw[z30];cases hh:lk (G3.toL .no isNo H.t) l with
 |none=>
  cases hg:hq H l with
  |none=>rfl
  |some o=>obtain⟨e1,e2⟩:=q05 hg;rw[z27 rfl (by show isNo (H.get l)=false;rw[e1];exact e2)] at hh;cases hh
 |some o=>obtain⟨e1,e2⟩:=z26 hh;rw[q12 (H:=H) e1 e2]
def p8:lk (mapH H) l=match hq H l with|some o=>some o.toHO|none=>lk (mapF H.F) l:=by unfold mapH;rw[q38,lk_tree];cases hq H l<;>rfl
def lkH(h:hq H l=some o):lk (mapH H) l=some o.toHO:=by rw[p8,h]
def j0b:∀ {F:List (Nat×Rg)} {l:Nat} {q:HO},lk (mapF F) l=some q→∃ i L,q=.fr i (mapT L)∧i<F.length
 |[],_,_,h=>by cases h
 |p::r,l,q,h=>by
  unfold mapF lk at h;by_cases hp:p.1=l
  ·rw[if_pos hp,yya] at h;exact⟨r.length,p.2,h.symm,by simp⟩
  ·rw[if_neg hp] at h;obtain⟨i,L,e1,e2⟩:=j0b h;exact⟨i,L,e1,by simp;omega⟩
def z36(hl:l<1024)(hn:isNo o=false):hq (updR H l o) l=some o:=by refine q12 ?_ hn;unfold Hg.get updR;rw[q2v,if_pos ⟨rfl,hl⟩]
def j0u(h:l≠m):hq (updR H l o) m=hq H m:=by
 have:(updR H l o).get m=H.get m:=by unfold Hg.get updR;rw[q2v,if_neg fun q=>h q.1]
 unfold hq;rw[q7c,q7c];exact congrArg hqO this
variable{q:HO}
def z1h(hn:isNo o=false)(h:lk (mapH (updR H l o)) m=some q):(l=m∧q=o.toHO)∨(lk (mapH H) m=some q∧(l≠m∨1024≤l)):=by
 by_cases hl:l=m
 ·subst hl;by_cases hb:l<1024
  ·rw[p8,z36 hb hn,yya] at h;exact .inl ⟨rfl,h.symm⟩
  ·have:(updR H l o).get l=H.get l:=by unfold Hg.get updR;rw[q2v,if_neg (fun q=>hb q.2)]
   have e:hq (updR H l o) l=hq H l:=by unfold hq;rw[q7c,q7c];exact congrArg hqO this
   rw[p8,e] at h;exact .inr ⟨by rw[p8];exact h,.inr (by omega)⟩
 ·rw[p8,j0u hl] at h;exact .inr ⟨by rw[p8];exact h,.inl hl⟩
def z4a{F:List (Nat×Rg)}(h:lk (mapF (fltF l F)) m=some q):l≠m∧lk (mapF F) m=some q:=by
 have no:∀ F:List (Nat×Rg),hasF l F=false→∀ q,lk (mapF F) l=some q→False:=fun F=>by
  induction F with
  |nil=>intro _ q h;cases h
  |cons p r ih=>
   intro hf q h;have ha:(@Bool.rec (fun _=>Bool) (hasF l r) true (Nat.beq p.1 l):Bool)=false:=hf;unfold mapF lk at h;cases hb:Nat.beq p.1 l
   ·rw[hb] at ha;have:p.1≠l:=fun e=>by subst e;simp at hb
    rw[if_neg this] at h;exact ih ha q h
   ·rw[hb] at ha;cases ha
 unfold fltF at h;cases hf:hasF l F
 ·rw[hf] at h;have h':lk (mapF F) m=some q:=h;exact⟨fun e=>by subst e;exact no F hf q h',h'⟩
 ·rw[hf] at h;have h':lk (mapF []) m=some q:=h;cases h'
def j1o(h:lk (mapH (delR H l)) m=some q):l≠m∧lk (mapH H) m=some q:=by
 have hg:∀ k,hq (delR H l) k=if l=k then none else hq H k:=fun k=>by
  unfold hq delR;simp only;rw[q7c,q7c,q2v];by_cases hk:l=k
  ·subst hk;rw[if_pos rfl];by_cases hb:l<1024
   ·rw[if_pos ⟨rfl,hb⟩];rfl
   ·rw[if_neg fun q=>hb q.2,q2n _ hb];rfl
  ·rw[if_neg fun q=>hk q.1,if_neg hk]
 rw[p8,hg] at h;by_cases hk:l=m
 ·rw[if_pos hk] at h;exact absurd hk (z4a h).1
 ·rw[if_neg hk] at h;refine⟨hk,?_⟩;rw[p8];cases ho:hq H m with
  |some o=>rw[ho] at h;exact h
  |none=>rw[ho] at h;exact(z4a h).2
variable{t:Rg}
def m6{v:RV}(h:t.get d=v)(hn:isNl v=false):lk (mapT t) d=some (.raw v):=by subst h;unfold mapT;rw[q6t,lk_toL hn];rfl
def n9{x:AV}(h:lk (mapT t) d=some x):x=.raw (t.get d)∧isNl (t.get d)=false:=by
 unfold mapT at h;rw[q6t] at h;cases hl:lk t.toL d with
 |none=>rw[hl] at h;cases h
 |some v=>rw[hl] at h;simp only[yxn,yya] at h;obtain⟨e1,e2⟩:=toL_lk hl;subst h;rw[e1];exact⟨rfl,e2⟩
def q7o{p:Nat×AV}(h:p∈mapT t):lk (mapT t) p.1=some p.2:=by unfold mapT mapR at h;obtain⟨q,h1,rfl⟩:=yy7.1 h;have:=mem_toL h1;unfold mapT;rw[q6t,this];rfl
attribute [irreducible] mapH hq updR delR mapT
section
variable {X:Ctx}{s:RS}{M:Mem}{ρ:Env}{a:Act}{w:World}
def z81(h2:REG X M ρ s.toS a){v:RV}(h:lq s.L d=some v):v.bd s.nx∧a.tmps.getD d Go.undef=v.cv ρ:=by
 have h':lk (mapR s.L) d=some (.raw v):=by rw[q6t,← lq_eq,h];rfl
 have:=h2.reg d _ h';simp only[AV.bd,AV.rv] at this;exact this
def q1c(h1:SAT X M ρ s.toS w)(h:hq s.H l=some o):l<s.nx∧o.toHO.bd s.nx∧o.toHO.ok X M ρ l w:=h1.own l _ (lkH h)
noncomputable def glF(g:Nat)(H:Hg):Nat→Option Nat
 |0=>none
 |k+1=>match hq H k with
  |some (.gl (some g') _ _ _ _)=>bif Nat.beq g g' then some k else glF g H k
  |_=>glF g H k
noncomputable def opg(s:RS)(g:Nat):Option RV:=
 match glF g s.H 8 with
 |some l=>(match hq s.H l with
  |some (.gl (some g') _ _ _ _)=>bif Nat.beq g g' then some (.p l 0) else none
  |_=>none)
 |none=>none
def opg_ok(h1:SAT X M ρ s.toS w){g:Nat}{v:RV}(h:opg s g=some v):v.bd s.nx∧a.eval (.global g)=v.cv ρ:=by
 unfold opg at h;split at h
 ·split at h
  ·rename_i l _ _ g' ty n d t hl;cases hg:Nat.beq g g'
   ·rw[hg] at h;cases h
   ·rw[hg,cond_true,yya] at h;subst h;have:=yyg hg;subst this;obtain⟨e1,_,e2⟩:=q1c h1 hl;simp only[RO.toHO,HO.ok] at e2;exact⟨e1,by simp only[Act.eval,RV.cv,e2.1 _ rfl]⟩
  ·cases h
 ·cases h
def RV.ofC:Value→Option RV
 |.int k n=>some (.i k n)
 |.bool x=>some (.b x)
 |.pointer none=>some .np
 |.slice none 0 0=>some .ns
 |.nilFunc=>some .fz
 |.map none=>some .nm
 |_=>none
def RV.ofL:List Value→Option RV
 |[]=>some .nil
 |v::r=>match RV.ofC v with
  |some a=>(match RV.ofL r with
   |some q=>some (.cons a q)
   |none=>none)
  |none=>none
def RV.ofV:Value→Option RV
 |.agg cs=>match RV.ofL cs.toList with
  |some r=>some (.g r)
  |none=>none
 |.tuple cs=>match RV.ofL cs.toList with
  |some r=>some (.t r)
  |none=>none
 |v=>RV.ofC v
variable{r:RV}
def z2u(h:RV.ofC v=some r)(ρ:Env)(n:Nat):r.cv ρ=v∧r.bd n:=by unfold RV.ofC at h;split at h<;>simp only[yya,reduceCtorEq] at h<;>subst h<;>exact⟨rfl,trivial⟩
def q8w:∀ {l:List Value} {r:RV},RV.ofL l=some r→∀ (ρ:Env) (n:Nat),r.cl ρ=l∧r.bd n
 |[],r,h,ρ,n=>by simp only[RV.ofL,yya] at h;subst h;exact⟨rfl,trivial⟩
 |v::l,r,h,ρ,n=>by
  simp only[RV.ofL] at h;split at h
  ·rename_i a ha;split at h
   ·rename_i b hb;simp only[yya] at h;subst h;have e1:=z2u ha ρ n;have e2:=q8w hb ρ n;exact⟨by rw[RV.cl,e1.1,e2.1],e1.2,e2.2⟩
   ·cases h
  ·cases h
def q1s(h:RV.ofV v=some r)(ρ:Env)(n:Nat):r.cv ρ=v∧r.bd n:=by
 unfold RV.ofV at h;split at h
 ·split at h
  ·rename_i h2;simp only[yya] at h;subst h;have e:=q8w h2 ρ n;exact⟨by rw[RV.cv,e.1],e.2⟩
  ·cases h
 ·split at h
  ·rename_i h2;simp only[yya] at h;subst h;have e:=q8w h2 ρ n;exact⟨by rw[RV.cv,e.1],e.2⟩
  ·cases h
 ·exact z2u h ρ n
def RV.scC:RV→Option Value
 |.i k n=>some (.int k n)
 |.b x=>some (.bool x)
 |.np=>some (.pointer none)
 |.ns=>some (.slice none 0 0)
 |.fz=>some .nilFunc
 |.nm=>some (.map none)
 |_=>none
def RV.scL:RV→Option (List Value)
 |.nil=>some []
 |.cons a r=>match a.scC with
  |some v=>(match r.scL with
   |some l=>some (v::l)
   |none=>none)
  |none=>none
 |_=>none
def RV.sc:RV→Option Value
 |.g c=>match c.scL with
  |some l=>some (.agg l.toArray)
  |none=>none
 |r=>r.scC
def z2t(h:r.scC=some v)(ρ:Env):r.cv ρ=v:=by cases r<;>simp only[RV.scC,yya,reduceCtorEq] at h<;>subst h<;>rfl
def z2s:∀ {r:RV} {l:List Value},r.scL=some l→∀ ρ:Env,r.cl ρ=l
 |.nil,l,h,ρ=>by simp only[RV.scL,yya] at h;subst h;rfl
 |.cons a r,l,h,ρ=>by
  simp only[RV.scL] at h;split at h
  ·rename_i v hv;split at h
   ·rename_i l' hl;simp only[yya] at h;subst h;rw[RV.cl,z2t hv ρ,z2s hl ρ]
   ·cases h
  ·cases h
 |.i ..,_,h,_|.b _,_,h,_|.np,_,h,_|.ns,_,h,_|.fz,_,h,_|.nm,_,h,_|.u,_,h,_|.p ..,_,h,_|.s ..,_,h,_|.m _,_,h,_|.it _,_,h,_|.y _,_,h,_|.o ..,_,h,_|.f ..,_,h,_|.g _,_,h,_|.t _,_,h,_=>by simp[RV.scL] at h
def q14(h:r.sc=some v)(ρ:Env):r.cv ρ=v:=by
 unfold RV.sc at h;split at h
 ·split at h
  ·rename_i hl;simp only[yya] at h;subst h;rw[RV.cv,z2s hl ρ]
  ·cases h
 ·exact z2t h ρ
noncomputable def opv(L:List (Nat×RV)):Operand→Option RV
 |.tmp t=>lq L t
 |.const v=>RV.ofV v
 |.func f=>some (.f f .nil .nil)
 |.global _=>none
def k8(h2:REG X M ρ s.toS a){v:RV}(h:opv s.L x=some v):v.bd s.nx∧a.eval x=v.cv ρ:=by
 cases x with
 |tmp t=>exact z81 h2 h
 |const c=>have:=q1s h ρ s.nx;exact⟨this.2,this.1.symm⟩
 |func f=>simp only[opv,yya] at h;subst h;exact⟨⟨trivial,trivial⟩,rfl⟩
 |global _=>simp[opv] at h
noncomputable def opvs(L:List (Nat×RV)):List Operand→Option RV
 |[]=>some .nil
 |o::r=>match opv L o with
  |some a=>(match opvs L r with
   |some b=>some (.cons a b)
   |none=>none)
  |none=>none
def q41(h2:REG X M ρ s.toS a):∀ {l:List Operand} {v:RV},opvs s.L l=some v→v.bd s.nx∧l.map a.eval=v.cl ρ
 |[],v,h=>by simp only[opvs,yya] at h;subst h;exact⟨trivial,rfl⟩
 |o::l,v,h=>by
  simp only[opvs] at h;split at h
  ·rename_i x hx;split at h
   ·rename_i y hy;simp only[yya] at h;subst h;have e1:=k8 h2 hx;have e2:=q41 h2 hy;exact⟨⟨e1.1,e2.1⟩,by rw[yy0,e1.2,e2.2,RV.cl]⟩
   ·cases h
  ·cases h
end
end Ox
namespace Ox
noncomputable section
open Go Go.RowKit
variable {X:Ctx}{s:RS}{M:Mem}{ρ:Env}{a:Act}{w w1:World}{P:Program}
def RV.drp:RV→Nat→RV
 |r,0=>r
 |.cons _ r,k+1=>r.drp k
 |_,_+1=>.nil
def RV.tk:RV→Nat→RV
 |.cons a r,k+1=>.cons a (r.tk k)
 |_,_=>.nil
def q8x(ρ:Env):∀ (k:Nat) (r:RV),(r.drp k).cl ρ=(r.cl ρ).drop k
 |0,r=>by cases r<;>rfl
 |k+1,.cons a r=>by simp only[RV.drp,RV.cl,List.drop_succ_cons];exact q8x ρ k r
 |k+1,.i ..|k+1,.b _|k+1,.np|k+1,.ns|k+1,.fz|k+1,.nm|k+1,.u|k+1,.nil|k+1,.p ..|k+1,.s ..|k+1,.m _|k+1,.it _|k+1,.y _|k+1,.o ..|k+1,.f ..|k+1,.g _|k+1,.t _=>rfl
def q6f(ρ:Env):∀ (k:Nat) (r:RV),(r.tk k).cl ρ=(r.cl ρ).take k
 |0,r=>by cases r<;>simp[RV.tk,RV.cl]
 |k+1,.cons a r=>by simp only[RV.tk,RV.cl,List.take_succ_cons];rw[q6f ρ k r]
 |k+1,.i ..|k+1,.b _|k+1,.np|k+1,.ns|k+1,.fz|k+1,.nm|k+1,.u|k+1,.nil|k+1,.p ..|k+1,.s ..|k+1,.m _|k+1,.it _|k+1,.y _|k+1,.o ..|k+1,.f ..|k+1,.g _|k+1,.t _=>rfl
def q8y{n:Nat}:∀ {k:Nat} {r:RV},r.bd n→(r.drp k).bd n
 |0,r,h=>by cases r<;>exact h
 |k+1,.cons a r,h=>by simp only[RV.drp];exact q8y h.2
 |k+1,.i ..,_|k+1,.b _,_|k+1,.np,_|k+1,.ns,_|k+1,.fz,_|k+1,.nm,_|k+1,.u,_|k+1,.nil,_|k+1,.p ..,_|k+1,.s ..,_|k+1,.m _,_|k+1,.it _,_|k+1,.y _,_|k+1,.o ..,_|k+1,.f ..,_|k+1,.g _,_|k+1,.t _,_=>trivial
def q7y{n:Nat}:∀ {k:Nat} {r:RV},r.bd n→(r.tk k).bd n
 |0,r,h=>by cases r<;>exact trivial
 |k+1,.cons a r,h=>⟨h.1,q7y h.2⟩
 |k+1,.i ..,_|k+1,.b _,_|k+1,.np,_|k+1,.ns,_|k+1,.fz,_|k+1,.nm,_|k+1,.u,_|k+1,.nil,_|k+1,.p ..,_|k+1,.s ..,_|k+1,.m _,_|k+1,.it _,_|k+1,.y _,_|k+1,.o ..,_|k+1,.f ..,_|k+1,.g _,_|k+1,.t _,_=>trivial
def partR(P:Program)(t:TypeId)(cs:RV)(off:Nat):Option RV:=
 match evS P (isAgg t) with
 |some true=>(match evS P (Go.sizeOf t) with
  |some n=>bif Nat.ble (off+n) cs.len then some (.g ((cs.drp off).tk n)) else none
  |none=>none)
 |some false=>bif Nat.blt off cs.len then some (cs.nth off) else none
 |none=>none
variable{v x:RV}
def z46{cs:RV}(h:partR P t cs off=some v)(hb:cs.bd n):v.bd n∧∀ w,(part t (cs.cl ρ).toArray off).run P w=.ok (v.cv ρ) w:=by
 unfold partR at h;split at h
 ·rename_i hA;split at h
  ·rename_i k hk;cases he:Nat.ble (off+k) cs.len
   ·rw[he] at h;cases h
   ·rw[he,cond_true,yya] at h;subst h;refine⟨q7y (q8y hb),fun w=>?_⟩;unfold part;simp only[yye,w4 hA,yyb,if_true,w4 hk,yyf,RV.cv,q6f,q8x];congr 2;apply Array.ext';simp[List.extract_eq_drop_take]
  ·cases h
 ·rename_i hA;cases ha:Nat.blt off cs.len
  ·rw[ha] at h;cases h
  ·rw[ha,cond_true,yya] at h;subst h;have hd:off<cs.len:=by simpa using ha
   refine⟨t8 hb,fun w=>?_⟩;unfold part;simp only[yye,w4 hA,yyb,yys,if_false,yxp,q07 ρ hd,yyf]
 ·cases h
def ldT(P:Program)(t:TypeId)(n:Nat)(tr:Tr)(off:Nat):Option RV:=
 match evS P (isAgg t) with
 |some true=>(match evS P (Go.sizeOf t) with
  |some k=>bif Nat.ble (off+k) n then some (.g (tr.cut k off)) else none
  |none=>none)
 |some false=>bif Nat.blt off n then some (tr.get off) else none
 |none=>none
noncomputable def ldR(P:Program)(H:Hg)(t:TypeId):RV→Option RV
 |.p l off=>match hq H l with
  |some (.blk _ _ n _ tr)=>ldT P t n tr off
  |some (.gl _ _ n _ tr)=>ldT P t n tr off
  |_=>none
 |_=>none
variable{tr:Tr}
def j1q{c:Nat→RV}(hc:∀ i,i<n→cs[i]?=some ((c i).cv ρ)∧((c i).cv ρ).oneCell'=true)(he:c=tr.get){k off:Nat}(h:off+k≤n) :
  (tr.cut k off).cl ρ=(cs.toList.drop off).take k:=by
 subst he;apply List.ext_getElem?;intro j;by_cases hj:j<k
 ·rw[q07 ρ (by rw[q0v];exact hj),q9t tr hj,yxm,if_pos hj,List.getElem?_drop,yxw,(hc (off+j) (by omega)).1]
 ·rw[yxe (by rw[j7,q0v];omega),yxe (by simp;omega)]
def ldT_ok{n off b m:Nat}{fz:Nat×Nat}(h:ldT P t n tr off=some v)(hg:n≤cs.size)(hc:∀ i,i<n→cs[i]?=some ((tr.get i).cv ρ)∧((tr.get i).cv ρ).oneCell'=true)
  (he:∀ i,i<n→(tr.get i).bd m):v.bd m∧∀ w1:World,w1.heap[b]?=some (.cells cs ty fz)→(Instr.loadAt t (.pointer (some ⟨b,off,none⟩))).run P w1=.ok (v.cv ρ) w1:=by
 unfold ldT at h;split at h
 ·rename_i hA;split at h
  ·rename_i k hk;cases hb:Nat.ble (off+k) n
   ·rw[hb] at h;cases h
   ·rw[hb,cond_true,yya] at h;subst h;have hd:off+k≤n:=yyd hb;refine⟨q6e fun j _ hj=>he j (by omega),fun w1 hw=>?_⟩;simp only[Instr.loadAt,Instr.sureAddr,RV.cv,yye,yyf,yyb];unfold loadVar;simp only[yye,w4 hA,yyb,if_true,w4 hk,q1p hw (show off+k≤cs.size by omega),yyf,j1q hc rfl hd]
  ·cases h
 ·rename_i hA;cases ha:Nat.blt off n
  ·rw[ha] at h;cases h
  ·rw[ha,cond_true,yya] at h;subst h;have ha:off<n:=by simpa using ha
   refine⟨he off ha,fun w1 hw=>?_⟩;simp only[Instr.loadAt,Instr.sureAddr,RV.cv,yye,yyf,yyb];unfold loadVar;simp only[yye,w4 hA,yyb,yys,if_false];simp[u6 hw,(hc off ha).1]
 ·cases h
def ldR_ok(h1:SAT X M ρ s.toS w)(h:ldR P s.H t x=some v):v.bd s.nx∧∀ w1,Below w.heap.size w w1→(Instr.loadAt t (x.cv ρ)).run P w1=.ok (v.cv ρ) w1:=by
 unfold ldR at h;split at h
 ·rename_i l off;split at h
  ·rename_i ty kk n d tr hl;obtain⟨hh,hb,hd⟩:=q1c h1 hl;simp only[RO.toHO,HO.ok,HO.bd] at hd hb;obtain⟨hg,cs,ha,he,hc,_⟩:=hd;obtain⟨e1,e2⟩:=ldT_ok (b:=ρ.blk l) (ty:=ty) (fz:=(0,0)) h he hc hb;exact⟨e1,fun w1 hw=>e2 w1 (by rw[hw.block _ (yyi.1 ha).1];exact ha)⟩
  ·rename_i g ty n d tr hl;obtain⟨hh,hb,hd⟩:=q1c h1 hl;simp only[RO.toHO,HO.ok,HO.bd] at hd hb;obtain⟨_,cs,ty,fz,hM,he,hc⟩:=hd;have ha:=h1.mem _ _ hM;obtain⟨e1,e2⟩:=ldT_ok (b:=ρ.blk l) (ty:=ty) (fz:=fz) h he hc hb;exact⟨e1,fun w1 hw=>e2 w1 (by rw[hw.block _ (yyi.1 ha).1];exact ha)⟩
  ·cases h
 ·cases h
def faR(P:Program)(t:TypeId)(x:RV)(i:Nat):Option RV:=
 match x with
 |.p l off=>match evS P (underlying t) with
  |some (.struct fs)=>(match fs[i]? with
   |some f=>(match evS P (Go.sizeOf f.type) with
    |some (_+1)=>some (.p l (off+f.offset))
    |_=>none)
   |none=>none)
  |_=>none
 |_=>none
def z52{i n:Nat}(h:faR P t x i=some v)(hb:x.bd n):v.bd n∧∀ w,(Instr.fieldAt t (x.cv ρ) i).run P w=.ok (v.cv ρ) w:=by
 unfold faR at h;split at h
 ·split at h
  ·rename_i hU;split at h
   ·rename_i hf;split at h
    ·rename_i hs;simp only[yya] at h;subst h;refine⟨hb,fun w=>?_⟩;unfold Instr.fieldAt;simp only[yye,w4 hU,yyb,hf,RV.cv,Instr.sureAddr,yyf,fieldPlace,w4 hs,j4];rw[if_neg (Nat.succ_ne_zero _)];rfl
    ·cases h
   ·cases h
  ·cases h
 ·cases h
def slB:RV→Option (Nat×Nat×Nat)
 |.s l off n _=>some (l,off,n)
 |.o l e lo hi _ _=>bif Nat.blt lo hi then some (l,lo*e,hi-lo) else none
 |_=>none
noncomputable def okO(H:Hg):RV→Bool
 |.o l e _ hi _ _=>match hq H l with
  |some (.blk _ (some e') n _ _)=>Nat.beq e e'&&Nat.ble (hi*e) n&&Nat.blt 0 e
  |_=>false
 |_=>true
def z4y(h1:SAT X M ρ s.toS w)(h:slB x=some (l,off,n))(ho:okO s.H x=true):(∀ m,x.bd m→l<m)∧∃ c,x.cv ρ=.slice (some ⟨ρ.blk l,off,none⟩) n c:=by
 unfold slB at h;split at h
 ·simp only[yya,yyn] at h;obtain⟨rfl,rfl,rfl⟩:=h;exact⟨fun _ h=>h,_,rfl⟩
 ·rename_i l' e lo hi full z;cases ha:Nat.blt lo hi
  ·rw[ha] at h;cases h
  ·rw[ha,cond_true,yya,yyn,yyn] at h;obtain⟨rfl,rfl,rfl⟩:=h;have hd:lo<hi:=by simpa using ha
   refine⟨fun _ h=>h,(if full then hi else(ρ.sv l').capN)-lo,?_⟩;rw[RV.cv,if_neg];simp only[okO] at ho;split at ho
   ·rename_i hl;simp only[yyc,Nat.beq_eq,Nat.blt_eq] at ho;obtain⟨⟨rfl,h3⟩,h4⟩:=ho;have h3:=yyd h3;obtain⟨_,_,hb⟩:=q1c h1 hl;simp only[RO.toHO,HO.ok] at hb;obtain⟨_,cs,_,_,_,m,cap,he,hn,_,hg,_⟩:=hb;have:hi≤cap:=by
     have:hi*e≤m*e:=by rw[← hn];exact h3
     exact Nat.le_trans (Nat.le_of_mul_le_mul_right this h4) hg
    split
    ·omega
    ·rw[he];simp only[Value.capN];omega
   ·cases ho
 ·cases h
noncomputable def iaR(P:Program)(H:Hg)(t:TypeId)(x i:RV):Option RV:=
 match i with
 |.i _ k=>match evS P (underlying t) with
  |some (.array len elem)=>(match x with
   |.p l off=>(match evS P (Go.sizeOf elem) with
    |some z=>bif decide (0≤k)&&decide (k<len) then some (.p l (off+k.toNat*z)) else none
    |none=>none)
   |_=>none)
  |some (.slice elem)=>(match slB x with
   |some (l,off,n)=>(match evS P (Go.sizeOf elem) with
    |some z=>bif (decide (0≤k)&&decide (k<n))&&okO H x then some (.p l (off+k.toNat*z)) else none
    |none=>none)
   |none=>none)
  |_=>none
 |_=>none
def iaR_ok(h1:SAT X M ρ s.toS w){x i v:RV}(h:iaR P s.H t x i=some v)(hb:x.bd n):v.bd n∧∀ w,(Instr.indexAt t (x.cv ρ) (i.cv ρ)).run P w=.ok (v.cv ρ) w:=by
 unfold iaR at h;split at h
 ·rename_i kk k;split at h
  ·rename_i len elem hU;split at h
   ·rename_i l off;split at h
    ·rename_i z hz;cases hc:decide (0≤k)&&decide (k<(len:Int))
     ·rw[hc] at h;cases h
     ·rw[hc,cond_true,yya] at h;subst h;simp only[yyc,yyu] at hc;refine⟨hb,fun w=>?_⟩;unfold Instr.indexAt;simp only[RV.cv,asIntOf,yye,yyf,yyb,w4 hU,Instr.sureAddr];rw[if_pos hc];simp[w4 hz,j4]
    ·cases h
   ·cases h
  ·rename_i elem hU;split at h
   ·rename_i l off m ha;split at h
    ·rename_i z hz;cases hc:(decide (0≤k)&&decide (k<(m:Int)))&&okO s.H x
     ·rw[hc] at h;cases h
     ·rw[hc,cond_true,yya] at h;subst h;simp only[yyc,yyu] at hc;obtain⟨e1,c,e2⟩:=z4y h1 ha hc.2;refine⟨e1 _ hb,fun w=>?_⟩;unfold Instr.indexAt;rw[e2];simp only[RV.cv,asIntOf,yye,yyf,yyb,w4 hU];rw[if_pos hc.1];simp[w4 hz,j4]
    ·cases h
   ·cases h
  ·cases h
 ·cases h
end
end Ox
namespace Ox
noncomputable section
open Go Go.RowKit
variable {X:Ctx}{s:RS}{M:Mem}{ρ:Env}{a:Act}{w w1:World}{P:Program}
def bN(d:Nat):Option RV→Option Nat
 |none=>some d
 |some (.i _ k)=>bif decide (0≤k) then some k.toNat else none
 |_=>none
def bN_ok{x:Option RV}(h:bN d x=some n):(x=none∧n=d)∨∃ k v,x=some (.i k v)∧0≤v∧n=v.toNat:=by
 unfold bN at h;split at h
 ·simp only[yya] at h;exact .inl ⟨rfl,h.symm⟩
 ·rename_i k v;cases hd:decide (0≤v)
  ·rw[hd] at h;cases h
  ·rw[hd,cond_true,yya] at h;exact .inr ⟨k,v,rfl,by simpa using hd,h.symm⟩
 ·cases h
def mxOk:Option RV→Option RV→Bool
 |none,some _=>false
 |_,_=>true
variable{lo hi mx:Option RV}
def q0o{fl:Bool}{x b m:Nat}(hm:bN cap mx=some m)(hh:bN n hi=some b)(hl:bN 0 lo=some x)(hx:mxOk hi mx=true)
  (h1:x≤b) (h2:b≤m) (h3:m≤cap) :
  (Instr.sliceBounds fl n cap (lo.map (RV.cv ρ)) (hi.map (RV.cv ρ)) (mx.map (RV.cv ρ))).run P w=.ok (x,b,m) w:=by
 unfold Instr.sliceBounds;rcases bN_ok hm with⟨rfl,rfl⟩|⟨k1,v1,rfl,g1,rfl⟩<;>rcases bN_ok hh with⟨rfl,rfl⟩|⟨k2,v2,rfl,g2,rfl⟩<;>(try cases hx)<;>
  rcases bN_ok hl with⟨rfl,rfl⟩|⟨k3,v3,rfl,g3,rfl⟩<;>simp only[Option.map_none,yxn,RV.cv,yye,yyf,yyb]
 ·rw[y8 g3 (by omega)];rfl
 ·rw[y8 g2 (by omega)];rfl
 ·rw[y8 g2 (by omega)];simp only[yyb];rw[y8 g3 (by omega)];rfl
 ·rw[y8 g1 (by omega)];simp only[yyb];rw[y8 g2 (by omega)];rfl
 ·rw[y8 g1 (by omega)];simp only[yyb];rw[y8 g2 (by omega)];simp only[yyb];rw[y8 g3 (by omega)];rfl
noncomputable def slR(P:Program)(H:Hg)(t:TypeId)(x:RV)(lo hi mx:Option RV):Option RV:=
 match evS P (underlying t) with
 |some (.slice elem)=>(match evS P (Go.sizeOf elem) with
  |some z=>(match x with
   |.ns=>(match bN 0 lo,bN 0 hi,bN 0 mx with
    |some 0,some 0,some 0=>bif mxOk hi mx then some .ns else none
    |_,_,_=>none)
   |.s l off n c=>(match bN 0 lo,bN n hi,bN c mx with
    |some p,some q,some m=>bif mxOk hi mx&&Nat.ble p q&&Nat.ble q m&&Nat.ble m c then some (.s l (bif Nat.beq m p then off else off+p*z) (q-p) (m-p)) else none
    |_,_,_=>none)
   |.o l e u v full zz=>(match bN 0 lo,bN (v-u) hi with
    |some p,some q=>bif mxOk hi mx&&Nat.ble p q&&(Nat.ble q (v-u)||(!full&&okO H (.o l e u (u+q) full zz)))&&okO H (.o l e u v full zz)&&Nat.beq z e&&Nat.ble u v then
      (match mx with
       |none=>bif !full||Nat.beq q (v-u) then some (.o l e (u+p) (u+q) full (bif Nat.beq p 0 then zz else u*e)) else none
       |some _=>match bN 0 mx with
        |some m=>bif Nat.beq m q then(bif Nat.blt 0 q||Nat.beq zz (u*e) then some (.o l e (u+p) (u+q) true (bif Nat.beq p 0 then zz else u*e)) else none)
          else bif Nat.ble q m&&Nat.ble m (v-u) then some (.s l ((u+p)*e) (q-p) (m-p)) else none
        |none=>none)
     else none
    |_,_=>none)
   |_=>none)
  |none=>none)
 |some (.array n elem)=>(match evS P (Go.sizeOf elem) with
  |some z=>(match x with
   |.p l off=>(match bN 0 lo,bN n hi,bN n mx with
    |some p,some q,some m=>bif mxOk hi mx&&Nat.ble p q&&Nat.ble q m&&Nat.ble m n then some (.s l (bif Nat.beq m p then off else off+p*z) (q-p) (m-p)) else none
    |_,_,_=>none)
   |_=>none)
  |none=>none)
 |_=>none
def z0g(h1:SAT X M ρ s.toS w){l e u v z:Nat}{full:Bool}(ho:okO s.H (.o l e u v full z)=true):v≤(if full then v else(ρ.sv l).capN):=by
 simp only[okO] at ho;split at ho
 ·rename_i hl;simp only[yyc,Nat.beq_eq,Nat.blt_eq] at ho;obtain⟨⟨rfl,h3⟩,h4⟩:=ho;have h3:=yyd h3;obtain⟨_,_,ha⟩:=q1c h1 hl;simp only[RO.toHO,HO.ok] at ha;obtain⟨_,cs,_,_,_,m,cap,hb,hn,_,hd,_⟩:=ha;have:v≤cap:=by
   have:v*e≤m*e:=by rw[← hn];exact h3
   exact Nat.le_trans (Nat.le_of_mul_le_mul_right this h4) hd
  split
  ·omega
  ·rw[hb];simp only[Value.capN];omega
 ·cases ho
def beq_ne(h:p≠q):Nat.beq p q=false:=by
 cases hp:Nat.beq p q
 ·rfl
 ·exact absurd (yyg hp) h
def z8j{b u z zz zp p q C:Nat}(ha:p≤q)(hC:u+q≤C)(h0:p=0→zp=zz)(h1:p≠0→zp=u*z) :
  Value.slice (if C-u=p then some ⟨b,if C=u then zz else u*z,none⟩ else(some (⟨b,if C=u then zz else u*z,none⟩:Addr)).map (·.add (p*z))) (q-p) (C-u-p) =
   .slice (some ⟨b,if C=u+p then zp else(u+p)*z,none⟩) (u+q-(u+p)) (C-(u+p)):=by
 have e1:q-p=u+q-(u+p):=by omega
 have e2:C-u-p=C-(u+p):=by omega
 rw[e1,e2];by_cases hp:p=0
 ·subst hp;rw[h0 rfl];by_cases hm:C-u=0
  ·rw[if_pos hm,Nat.add_zero]
  ·rw[if_neg hm,Nat.add_zero];simp[j4]
 ·have hn:¬ C=u:=by omega
  rw[if_neg hn,h1 hp];by_cases hm:C-u=p
  ·rw[if_pos hm,if_pos (show C=u+p by omega)]
  ·rw[if_neg hm,if_neg (show ¬ C=u+p by omega)];simp[j4,yy8]
def slR_ok(h1:SAT X M ρ s.toS w){x r:RV}(h:slR P s.H t x lo hi mx=some r){k:Nat}(hb:x.bd k) :
  r.bd k∧∀ w,(Instr.sliceAt t (x.cv ρ) (lo.map (RV.cv ρ)) (hi.map (RV.cv ρ)) (mx.map (RV.cv ρ))).run P w=.ok (r.cv ρ) w:=by
 unfold slR at h;split at h
 ·rename_i elem hU;split at h
  ·rename_i z hz;have go:∀ {ad:Option Addr} {n cap p q m:Nat} {w:World},(Instr.sliceBounds true n cap (lo.map (RV.cv ρ)) (hi.map (RV.cv ρ)) (mx.map (RV.cv ρ))).run P w=.ok (p,q,m) w →
     (Instr.sliceAt t (.slice ad n cap) (lo.map (RV.cv ρ)) (hi.map (RV.cv ρ)) (mx.map (RV.cv ρ))).run P w=.ok (.slice (if m=p then ad else ad.map (·.add (p*z))) (q-p) (m-p)) w:=fun hr=>by
    unfold Instr.sliceAt Instr.slice;simp only[yye,w4 hU,yyb,hr,w4 hz,yyf]
   split at h
   ·split at h
    ·rename_i e1 e2 e3;cases hx:mxOk hi mx
     ·rw[hx] at h;cases h
     ·rw[hx,cond_true,yya] at h;subst h;exact⟨trivial,fun w=>go (q0o e3 e2 e1 hx (yyl _) (yyl _) (yyl _))⟩
    ·cases h
   ·rename_i l off n c;split at h
    ·rename_i p q m e1 e2 e3;cases hx:mxOk hi mx&&Nat.ble p q&&Nat.ble q m&&Nat.ble m c
     ·rw[hx] at h;cases h
     ·rw[hx,cond_true,yya] at h;subst h;simp only[yyc] at hx;refine⟨hb,fun w=>(go (q0o e3 e2 e1 hx.1.1.1 (yyd hx.1.1.2) (yyd hx.1.2) (yyd hx.2))).trans ?_⟩;simp only[RV.cv];cases hm:Nat.beq m p
      ·have:m≠p:=fun e=>by subst e;simp at hm
       rw[if_neg this,cond_false];simp[j4]
      ·rw[if_pos (yyg hm),cond_true]
    ·cases h
   ·rename_i l e u v full zz;split at h
    ·rename_i p q e1 e2;cases hx:mxOk hi mx&&Nat.ble p q&&(Nat.ble q (v-u)||(!full&&okO s.H (.o l e u (u+q) full zz)))&&okO s.H (.o l e u v full zz)&&Nat.beq z e&&Nat.ble u v
     ·rw[hx] at h;cases h
     ·rw[hx,cond_true] at h;simp only[yyc] at hx;obtain⟨⟨⟨⟨⟨hh,ha⟩,hd⟩,hv⟩,hj⟩,hu⟩:=hx;have hu:=yyd hu;have ha:=yyd ha;have hj:=yyg hj;subst hj;have hC:=z0g h1 hv;have hw:u+q≤(if full then v else(ρ.sv l).capN):=by
       simp only[yyy,yyc] at hd;rcases hd with hd|⟨hf,hd⟩
       ·have:=yyd hd;omega
       ·have hf:full=false:=by simpa using hf
        subst hf;exact z0g h1 hd
      generalize hk:(if full then v else(ρ.sv l).capN)=C at hC hw;have hy:(RV.o l z u v full zz).cv ρ=.slice (some ⟨ρ.blk l,if C=u then zz else u*z,none⟩) (v-u) (C-u):=by simp only[RV.cv,hk]
      rw[hy];split at h
      ·cases hf:!full||Nat.beq q (v-u)
       ·rw[hf] at h;cases h
       ·rw[hf,cond_true,yya] at h;subst h;refine⟨hb,fun w=>(go (q0o (m:=C-u) rfl e2 e1 hh ha (by omega) (yyl _))).trans ?_⟩;have hq:full=true→q=v-u:=fun e=>by rw[e] at hf;simpa using hf
        have hA:(if full then u+q else(ρ.sv l).capN)=C:=by
         cases full
         ·simpa using hk
         ·simp only[if_true] at hk ⊢;have:=hq rfl;omega
        simp only[RV.cv,hA];refine congrArg (Result.ok · w) ?_;exact z8j ha (by omega) (fun h0=>by rw[h0];rfl) (fun h0=>by rw[beq_ne h0];rfl)
      ·split at h
       ·rename_i mv _ m e3;have e3':bN (C-u) (some mv)=some m:=by rw[← e3];cases mv<;>rfl
        cases he:Nat.beq m q
        ·rw[he,cond_false] at h;cases hm:Nat.ble q m&&Nat.ble m (v-u)
         ·rw[hm] at h;cases h
         ·rw[hm,cond_true,yya] at h;subst h;simp only[yyc] at hm;have hB:=yyd hm.1;have hD:=yyd hm.2;have hE:m≠q:=fun e=>by subst e;simp at he
          refine⟨hb,fun w=>(go (q0o (m:=m) e3' e2 e1 hh ha hB (by omega))).trans ?_⟩;simp only[RV.cv];rw[if_neg (show ¬ m=p by omega),if_neg (show ¬ C=u by omega)];simp[j4,yy8]
        ·rw[he,cond_true] at h;cases hg:Nat.blt 0 q||Nat.beq zz (u*z)
         ·rw[hg] at h;cases h
         rw[hg,cond_true,yya] at h;subst h;simp only[yyy,Nat.blt_eq] at hg;have he:=yyg he;subst he;refine⟨hb,fun w=>(go (q0o (m:=m) e3' e2 e1 hh ha (yyl _) (by omega))).trans ?_⟩;simp only[RV.cv,if_true];refine congrArg (Result.ok · w) ?_;have hz:(if C=u then zz else u*z)=if u+m=u then zz else u*z:=by
          rcases hg with h0|h0
          ·rw[if_neg (by omega),if_neg (by omega)]
          ·rw[yyg h0];simp
         rw[hz];have:=z8j (b:=ρ.blk l) (u:=u) (z:=z) (zz:=zz) (zp:=bif Nat.beq p 0 then zz else u*z) (C:=u+m) ha (by omega) (fun h0=>by rw[h0];rfl) (fun h0=>by rw[beq_ne h0];rfl);rw[Nat.add_sub_cancel_left] at this;exact this
       ·cases h
    ·cases h
   ·cases h
  ·cases h
 ·rename_i n elem hU;split at h
  ·rename_i z hz;split at h
   ·rename_i l off;split at h
    ·rename_i p q m e1 e2 e3;cases hx:mxOk hi mx&&Nat.ble p q&&Nat.ble q m&&Nat.ble m n
     ·rw[hx] at h;cases h
     ·rw[hx,cond_true,yya] at h;subst h;simp only[yyc] at hx;refine⟨hb,fun w=>?_⟩;unfold Instr.sliceAt;simp only[yye,w4 hU,yyb,RV.cv,Instr.sureAddr,yyf,q0o e3 e2 e1 hx.1.1.1 (yyd hx.1.1.2) (yyd hx.1.2) (yyd hx.2),w4 hz];cases hm:Nat.beq m p
      ·have:m≠p:=fun e=>by subst e;simp at hm
       rw[if_neg this,cond_false];simp[j4]
      ·rw[if_pos (yyg hm),cond_true]
    ·cases h
   ·cases h
  ·cases h
 ·cases h
end
end Ox
namespace Ox
noncomputable section
open Go Go.RowKit
variable {X:Ctx}{s:RS}{M:Mem}{ρ:Env}{a:Act}{w w1:World}{P:Program}
def fdR(P:Program)(t:TypeId)(x:RV)(i:Nat):Option RV:=
 match x with
 |.g cs=>(match evS P (underlying t) with
  |some (.struct fs)=>(match fs[i]? with
   |some f=>partR P f.type cs f.offset
   |none=>none)
  |_=>none)
 |_=>none
def fdR_ok{x v:RV}{i n:Nat}(h:fdR P t x i=some v)(hb:x.bd n):v.bd n∧∀ w,(Instr.field t (x.cv ρ) i).run P w=.ok (v.cv ρ) w:=by
 unfold fdR at h;split at h
 ·split at h
  ·rename_i hU;split at h
   ·rename_i hf;obtain⟨e1,e2⟩:=z46 (ρ:=ρ) h hb;refine⟨e1,fun w=>?_⟩;unfold Instr.field;simp only[yye,w4 hU,yyb,hf,RV.cv,asAgg,yyf,e2]
   ·cases h
  ·cases h
 ·cases h
def ixR(P:Program)(t:TypeId)(x i:RV):Option RV:=
 match i with
 |.i _ k=>(match x with
  |.g cs=>(match evS P (underlying t) with
   |some (.array len elem)=>(match evS P (Go.sizeOf elem) with
    |some z=>bif decide (0≤k)&&decide (k<len) then partR P elem cs (k.toNat*z) else none
    |none=>none)
   |_=>none)
  |_=>none)
 |_=>none
def ixR_ok{x i v:RV}(h:ixR P t x i=some v)(hb:x.bd n):v.bd n∧∀ w,(Instr.index t (x.cv ρ) (i.cv ρ)).run P w=.ok (v.cv ρ) w:=by
 unfold ixR at h;split at h
 ·rename_i kk k;split at h
  ·rename_i cs;split at h
   ·rename_i len elem hU;split at h
    ·rename_i z hz;cases hc:decide (0≤k)&&decide (k<(len:Int))
     ·rw[hc] at h;cases h
     ·rw[hc,cond_true] at h;simp only[yyc,yyu] at hc;obtain⟨e1,e2⟩:=z46 (ρ:=ρ) h hb;refine⟨e1,fun w=>?_⟩;unfold Instr.index;simp only[RV.cv,asIntOf,yye,yyf,yyb,w4 hU];rw[if_pos hc];simp only[yye,w4 hz,yyb,e2]
    ·cases h
   ·cases h
  ·cases h
 ·cases h
noncomputable def lnR(P:Program)(H:Hg)(t:TypeId)(x:RV):Option RV:=
 match evS P (underlying t) with
 |some (.slice _)=>(match x with
  |.ns=>some (.i .i64 0)
  |.s _ _ n _=>some (.i .i64 n)
  |.o _ _ lo hi _ _=>some (.i .i64 (hi-lo:Nat))
  |_=>none)
 |some (.array n _)=>some (.i .i64 n)
 |some (.map _ _)=>(match x with
  |.m l=>(match hq H l with
   |some (.map es _)=>some (.i .i64 es.length)
   |_=>none)
  |_=>none)
 |_=>none
def lnR_ok(h1:SAT X M ρ s.toS w){x v:RV}(h:lnR P s.H t x=some v):(∀ n,v.bd n)∧∀ w1,Below w.heap.size w w1→∀ ty,(Builtin.len_ #[t] ty #[x.cv ρ]).run P w1=.ok (v.cv ρ) w1:=by
 unfold lnR at h;split at h
 ·rename_i e hU;split at h<;>simp only[yya,reduceCtorEq] at h<;>subst h<;>refine⟨fun _=>trivial,fun w1 _ ty=>?_⟩<;>simp[Builtin.len_,w4 hU,goInt,RV.cv]
 ·rename_i n e hU;simp only[yya] at h;subst h;refine⟨fun _=>trivial,fun w1 _ ty=>?_⟩;simp[Builtin.len_,w4 hU,goInt,RV.cv]
 ·rename_i k e hU;split at h
  ·rename_i l;split at h
   ·rename_i es clk hl;simp only[yya] at h;subst h;obtain⟨_,_,hd⟩:=q1c h1 hl;simp only[RO.toHO,HO.ok] at hd;obtain⟨_,ms,ha,he⟩:=hd;refine⟨fun _=>trivial,fun w1 hw ty=>?_⟩;have hh:w1.heap[ρ.blk l]?=some (.map ms clk):=by rw[hw.block _ (yyi.1 ha).1];exact ha
    have hb:ms.size=es.length:=by rw[← Array.length_toList,he,yx5]
    simp[Builtin.len_,w4 hU,goInt,RV.cv,getObj,Sem.run,hh,hb]
   ·cases h
  ·cases h
 ·cases h
def cpR(P:Program)(t:TypeId)(x:RV):Option RV:=
 match evS P (underlying t) with
 |some (.slice _)=>(match x with
  |.ns=>some (.i .i64 0)
  |.s _ _ _ c=>some (.i .i64 c)
  |.o _ _ lo hi true _=>some (.i .i64 (hi-lo:Nat))
  |_=>none)
 |_=>none
def cpR_ok{x v:RV}(h:cpR P t x=some v):(∀ n,v.bd n)∧∀ w1 ty,(Builtin.cap_ #[t] ty #[x.cv ρ]).run P w1=.ok (v.cv ρ) w1:=by
 unfold cpR at h;split at h
 ·rename_i e hU;split at h<;>simp only[yya,reduceCtorEq] at h<;>subst h<;>refine⟨fun _=>trivial,fun w1 ty=>?_⟩<;>simp[Builtin.cap_,w4 hU,goInt,RV.cv]
 ·cases h
def nlR(P:Program)(t:TypeId)(x y:RV):Option Bool:=
 match evS P (underlying t) with
 |some (.pointer _)=>(match x,y with
  |.p _ _,.np=>some false
  |.np,.p _ _=>some false
  |_,_=>none)
 |some (.slice _)=>(match x,y with
  |.s _ _ _ _,.ns=>some false
  |.o _ _ _ _ _ _,.ns=>some false
  |_,_=>none)
 |some (.func _ _ _)=>(match x,y with
  |.f _ _ _,.fz=>some false
  |_,_=>none)
 |_=>none
def inR(k:IntKind)(r:Int):Bool:=IntKind.casesOn (motive:=fun _=>Bool) k false false false
 (Int.casesOn (motive:=fun _=>Bool) r (fun n=>Nat.blt n 9223372036854775808) (fun n=>Nat.blt n 9223372036854775808)) false false false
 (Int.casesOn (motive:=fun _=>Bool) r (fun n=>Nat.blt n 18446744073709551616) (fun _=>false))
def z2a(h:inR k r=true):inK k r:=by cases k<;>cases r<;>simp[inR,Nat.blt] at h<;>simp only[inK,Int.ofNat_eq_natCast]<;>omega
def iLt(a b:Int):Bool:=Int.casesOn (motive:=fun _=>Bool) a (fun m=>Int.casesOn (motive:=fun _=>Bool) b (fun n=>Nat.blt m n) (fun _=>false)) (fun m=>Int.casesOn (motive:=fun _=>Bool) b (fun _=>true) (fun n=>Nat.blt n m))
def z5u(a b:Int):iLt a b=decide (a<b):=by rw[yxb];cases a<;>cases b<;>simp[iLt,Nat.blt]<;>omega
def iNn(a:Int):Bool:=Int.casesOn (motive:=fun _=>Bool) a (fun _=>true) (fun _=>false)
def z5t{a:Int}(h:iNn a=true):0≤a:=by cases a<;>simp[iNn] at h<;>simp only[Int.ofNat_eq_natCast]<;>omega
def keep(k:IntKind)(r:Int):Option RV:=bif inR k r then some (.i k r) else none
variable{v u:RV}
def z33(h:keep k r=some v):inK k r∧v=.i k r:=by
 unfold keep at h;cases hr:inR k r
 ·rw[hr] at h;cases h
 ·rw[hr,cond_true,yya] at h;exact⟨z2a hr,h.symm⟩
def f_add(k:IntKind)(a b:Int):Option RV:=keep k (Int.add a b)
def f_sub(k:IntKind)(a b:Int):Option RV:=keep k (Int.sub a b)
def f_mul(k:IntKind)(a b:Int):Option RV:=keep k (Int.mul a b)
def f_no(_:IntKind)(_ _:Int):Option RV:=none
def f_and(k:IntKind)(a b:Int):Option RV:=bif iNn a&&iNn b&&inR k a&&inR k b then some (.i k (Int.ofNat (Nat.land a.toNat b.toNat))) else none
def f_or(k:IntKind)(a b:Int):Option RV:=bif iNn a&&iNn b&&inR k a&&inR k b then some (.i k (Int.ofNat (Nat.lor a.toNat b.toNat))) else none
def f_eql(_:IntKind)(a b:Int):Option RV:=some (.b (iEq a b))
def f_neq(_:IntKind)(a b:Int):Option RV:=some (.b (!iEq a b))
def f_lss(_:IntKind)(a b:Int):Option RV:=some (.b (iLt a b))
def f_leq(_:IntKind)(a b:Int):Option RV:=some (.b (!iLt b a))
def f_gtr(_:IntKind)(a b:Int):Option RV:=some (.b (iLt b a))
def f_geq(_:IntKind)(a b:Int):Option RV:=some (.b (!iLt a b))
def f_op(op:BinOp):IntKind→Int→Int→Option RV:=BinOp.casesOn (motive:=fun _=>IntKind→Int→Int→Option RV) op f_add f_sub f_mul f_no f_no f_and f_or f_no f_no f_no f_no f_eql f_neq f_lss f_leq f_gtr f_geq
variable{op:BinOp}
def j08{a b:Int}(h:f_op op k a b=some v)(t:TypeId)(x y:Operand)(w:World) :
  (do eqGuard op t x y (.int k a) (.int k b);binOp op t (.int k a) (.int k b):Sem Value).run P w=.ok (v.cv ρ) w∧∀ n,v.bd n:=by
 have gd:∀ op,(eqGuard op t x y (.int k a) (.int k b)).run P w=.ok () w:=fun op=>f6 op t x y k k a b;cases op<;>simp only[f_op,f_no,reduceCtorEq] at h
 case add=>obtain⟨h1,rfl⟩:=z33 h;change inK k (a+b) at h1;refine⟨?_,fun _=>trivial⟩;simp only[yye,gd,yyb,binOp,ne_eq,not_true_eq_false,if_false,Op.intArith,yyf,o6 h1,RV.cv];rfl
 case sub=>obtain⟨h1,rfl⟩:=z33 h;change inK k (a-b) at h1;refine⟨?_,fun _=>trivial⟩;simp only[yye,gd,yyb,binOp,ne_eq,not_true_eq_false,if_false,Op.intArith,yyf,o6 h1,RV.cv];rfl
 case mul=>obtain⟨h1,rfl⟩:=z33 h;change inK k (a*b) at h1;refine⟨?_,fun _=>trivial⟩;simp only[yye,gd,yyb,binOp,ne_eq,not_true_eq_false,if_false,Op.intArith,yyf,o6 h1,RV.cv];rfl
 case and=>
  unfold f_and at h;cases hg:iNn a&&iNn b&&inR k a&&inR k b
  ·rw[hg] at h;cases h
  ·rw[hg,cond_true,yya] at h;subst h;simp only[yyc] at hg;refine⟨?_,fun _=>trivial⟩;have:=z8s (P:=P) (w:=w) (z5t hg.1.1.1) (z5t hg.1.1.2) (z2a hg.1.2) (z2a hg.2);simp only[yye,gd,yyb,binOp,ne_eq,not_true_eq_false,if_false,this,RV.cv];rfl
 case or=>
  unfold f_or at h;cases hg:iNn a&&iNn b&&inR k a&&inR k b
  ·rw[hg] at h;cases h
  ·rw[hg,cond_true,yya] at h;subst h;simp only[yyc] at hg;refine⟨?_,fun _=>trivial⟩;have:=run_or (P:=P) (w:=w) (z5t hg.1.1.1) (z5t hg.1.1.2) (z2a hg.1.2) (z2a hg.2);simp only[yye,gd,yyb,binOp,ne_eq,not_true_eq_false,if_false,this,RV.cv];rfl
 case eql=>simp only[f_eql,yya] at h;subst h;refine⟨?_,fun _=>trivial⟩;simp[gd,binOp,Op.intCmp,RV.cv,z2c]
 case neq=>simp only[f_neq,yya] at h;subst h;refine⟨?_,fun _=>trivial⟩;simp[gd,binOp,Op.intCmp,RV.cv,z2c];rfl
 case lss=>simp only[f_lss,yya] at h;subst h;refine⟨?_,fun _=>trivial⟩;simp[gd,binOp,Op.intCmp,RV.cv,z5u]
 case leq=>simp only[f_leq,yya] at h;subst h;refine⟨?_,fun _=>trivial⟩;simp[gd,binOp,Op.intCmp,RV.cv,z5u];rw[yxb];simp
 case gtr=>simp only[f_gtr,yya] at h;subst h;refine⟨?_,fun _=>trivial⟩;simp[gd,binOp,Op.intCmp,RV.cv,z5u]
 case geq=>simp only[f_geq,yya] at h;subst h;refine⟨?_,fun _=>trivial⟩;simp[gd,binOp,Op.intCmp,RV.cv,z5u];rw[yxb];simp
def kEq(a b:IntKind):Bool:=Nat.beq a.ctorIdx b.ctorIdx
def j0q{a b:IntKind}(h:kEq a b=true):a=b:=by cases a<;>cases b<;>first|rfl|(exact absurd h (by decide))
def f_bin(op:BinOp)(u v:RV):Option RV:=
 match u with
 |.i k a=>(match v with
  |.i k' b=>bif kEq k k' then f_op op k a b else none
  |_=>none)
 |_=>none
def bnR0(P:Program)(op:BinOp)(t:TypeId)(x y:Operand)(u v:RV):Option RV:=
 match u.sc with
 |some p=>(match v.sc with
  |some q=>(match evS P (do eqGuard op t x y p q;binOp op t p q) with
   |some r=>RV.ofV r
   |none=>none)
  |none=>none)
 |none=>(match nlR P t u v with
  |some b=>(match op with
   |.eql=>some (.b b)
   |.neq=>some (.b !b)
   |_=>none)
  |none=>none)
noncomputable section
def isI(k:IntKind)(v:RV):Bool:=@RV.rec (fun _=>Bool) (fun k' _=>kEq k k') (fun _=>false) (false) (false) (false) (false) (false) (fun _ _=>false) (fun _ _ _ _=>false) (fun _ _ _ _ _ _=>false) (fun _=>false) (fun _=>false) (fun _=>false) (fun _ _ _ _ _=>false) (fun _ _=>false) (fun _ _=>false) (false) (fun _ _ _ _=>false) v
def hdI(v:RV):Int:=@RV.rec (fun _=>Int) (fun _ z=>z) (fun _=>0) (0) (0) (0) (0) (0) (fun _ _=>0) (fun _ _ _ _=>0) (fun _ _ _ _ _ _=>0) (fun _=>0) (fun _=>0) (fun _=>0) (fun _ _ _ _ _=>0) (fun _ _=>0) (fun _ _=>0) (0) (fun _ _ _ _=>0) v
def allI(k:IntKind)(v:RV):Nat→Bool:=@RV.rec (fun _=>Nat→Bool) (fun _ _ _=>false) (fun _ _=>false) (fun _=>false) (fun _=>false) (fun _=>false) (fun _=>false) (fun _=>false) (fun _ _ _=>false) (fun _ _ _ _ _=>false) (fun _ _ _ _ _ _ _=>false) (fun _ _=>false) (fun _ _=>false) (fun _ _=>false) (fun _ _ _ _ _ _=>false) (fun _ _ _=>false) (fun _ _ _=>false) (fun n=>Nat.beq n 0) (fun x _ _ ih n=>bAnd (isI k x) (bAnd (Nat.blt 0 n) (ih (Nat.sub n 1)))) v
def eqI2(v:RV):Int→(RV→Bool)→Bool:=@RV.rec (fun _=>Int→(RV→Bool)→Bool) (fun _ _ _ _=>false) (fun _ _ _=>false) (fun _ _=>false) (fun _ _=>false) (fun _ _=>false) (fun _ _=>false) (fun _ _=>false) (fun _ _ _ _=>false) (fun _ _ _ _ _ _=>false) (fun _ _ _ _ _ _ _ _=>false) (fun _ _ _=>false) (fun _ _ _=>false) (fun _ _ _=>false) (fun _ _ _ _ _ _ _=>false) (fun _ _ _ _=>false) (fun _ _ _ _=>false) (fun _ _=>false) (fun y r _ _ z f=>bAnd (iEq z (hdI y)) (f r)) v
def eqI(v:RV):RV→Bool:=@RV.rec (fun _=>RV→Bool) (fun _ _ _=>true) (fun _ _=>true) (fun _=>true) (fun _=>true) (fun _=>true) (fun _=>true) (fun _=>true) (fun _ _ _=>true) (fun _ _ _ _ _=>true) (fun _ _ _ _ _ _ _=>true) (fun _ _=>true) (fun _ _=>true) (fun _ _=>true) (fun _ _ _ _ _ _=>true) (fun _ _ _=>true) (fun _ _ _=>true) (fun _=>true) (fun x _ _ ih b=>eqI2 b (hdI x) ih) v
def arO(P:Program)(t:TypeId):Option (Nat×IntKind):=
 match evS P (underlying t) with
 |some (.array len elem)=>(match evS P (underlying elem) with
  |some (.int k)=>bif eqtB P (.arr len (.int k)) t then some (len,k) else none
  |_=>none)
 |_=>none
def arR(P:Program)(op:BinOp)(t:TypeId)(u v:RV):Option RV:=
 match u with
 |.g a=>(match v with
  |.g b=>(match op with
   |.eql=>(match arO P t with
    |some q=>bif bAnd (allI q.2 a q.1) (allI q.2 b q.1) then some (.b (eqI a b)) else none
    |none=>none)
   |.neq=>(match arO P t with
    |some q=>bif bAnd (allI q.2 a q.1) (allI q.2 b q.1) then some (.b (!eqI a b)) else none
    |none=>none)
   |_=>none)
  |_=>none)
 |_=>none
end
def z6h{x r:RV}(h:allI k (.cons x r) n=true):∃ z m,x=.i k z∧n=m+1∧allI k r m=true:=by
 obtain⟨h1,h2⟩:=v5.1 (show bAnd (isI k x) (bAnd (Nat.blt 0 n) (allI k r (Nat.sub n 1)))=true from h);obtain⟨h2,h3⟩:=v5.1 h2;cases x<;>first|(cases h1;done)|skip
 rename_i k' z;have:=j0q (show kEq k k'=true from h1);subst this;have hn:0<n:=by simpa using h2
 exact⟨z,n-1,rfl,by omega,h3⟩
def j2b(h:allI k .nil n=true):n=0:=yyg h
def z6f(h:allI k v n=true):v=.nil∨∃ x r,v=.cons x r:=by cases v<;>first|(cases h;done)|exact .inl rfl|exact .inr ⟨_,_,rfl⟩
def z6g{k:IntKind}{ρ:Env}:∀ {n:Nat} {v:RV},allI k v n=true→(v.cl ρ).length=n∧∀ i,i<n→∃ z,(v.cl ρ)[i]?=some (.int k z)
 |n,v,h=>by
  rcases z6f h with rfl|⟨x,r,rfl⟩
  ·have:=j2b h;subst this;exact⟨rfl,fun i hi=>absurd hi (Nat.not_lt_zero _)⟩
  ·obtain⟨z,m,rfl,rfl,h'⟩:=z6h h;obtain⟨e1,e2⟩:=z6g (n:=m) (v:=r) h';refine⟨by rw[RV.cl,List.length_cons,e1],fun i hi=>?_⟩;cases i with
   |zero=>exact⟨z,rfl⟩
   |succ i=>obtain⟨y,hy⟩:=e2 i (by omega);exact⟨y,by rw[RV.cl,yxi];exact hy⟩
def j1f{k:IntKind}{ρ:Env}:∀ {n:Nat} {a b:RV},allI k a n=true→allI k b n=true→(eqI a b=true↔a.cl ρ=b.cl ρ)
 |n,a,b,ha,hb=>by
  rcases z6f ha with rfl|⟨x,r,rfl⟩
  ·have:=j2b ha;subst this;rcases z6f hb with rfl|⟨y,q,rfl⟩
   ·exact⟨fun _=>rfl,fun _=>rfl⟩
   ·obtain⟨_,m,_,hm,_⟩:=z6h hb;cases hm
  ·obtain⟨z,m,rfl,rfl,hd⟩:=z6h ha;rcases z6f hb with rfl|⟨y,q,rfl⟩
   ·have:=j2b hb;cases this
   ·obtain⟨z',m',rfl,hm,he⟩:=z6h hb;have:m=m':=by omega
    subst this;have ih:=j1f (ρ:=ρ) hd he;have e:eqI (.cons (.i k z) r) (.cons (.i k z') q)=bAnd (iEq z z') (eqI r q):=rfl;rw[e,v5,ih,z2c,beq_iff_eq,RV.cl,RV.cl];simp[RV.cv]
def arR_ok{u v r:RV}(h:arR P op t u v=some r)(x y:Operand):(∀ n,r.bd n)∧∀ w,(do eqGuard op t x y (u.cv ρ) (v.cv ρ);binOp op t (u.cv ρ) (v.cv ρ):Sem Value).run P w=.ok (r.cv ρ) w:=by
 have key:∀ {a b:RV} {q:Nat×IntKind},arO P t=some q→allI q.2 a q.1=true→allI q.2 b q.1=true→P.eqGuardType P.depth t=false∧∀ w,(Op.equal t (.agg (a.cl ρ).toArray) (.agg (b.cl ρ).toArray)).run P w=.ok (eqI a b) w:=fun {a b q} hq h1 h2=>by
  unfold arO at hq;split at hq
  ·split at hq
   ·rename_i len elem _ _ k _;cases hb:eqtB P (.arr len (.int k)) t
    ·rw[hb] at hq;cases hq
    ·rw[hb,cond_true] at hq;injection hq with hq;subst hq
     have hT:=EqT.of hb;refine⟨hT.gt,fun w=>?_⟩;have fl:∀ {v:RV},allI k v len=true→Fl (.arr len (.int k)) (v.cl ρ):=fun {v} hv=>by obtain⟨e1,e2⟩:=z6g (ρ:=ρ) hv;refine⟨by rw[e1];simp[Ty.size],fun i hi=>?_⟩;obtain⟨z,hz⟩:=e2 i hi;refine⟨z,?_⟩;show((v.cl ρ).drop (i*1)).take 1=[.int k z];rw[Nat.mul_one];obtain⟨ha,hz⟩:=yy6.1 hz;rw[yxf ha,hz];rfl
     obtain⟨b',hr,hd⟩:=(z2g (P:=P) (.arr len (.int k))).1 t 10000 hT.key.ty hT.key.ok hT.key.dep w _ _ (fl h1) (fl h2);have:b'=eqI a b:=by rw[yxb,hd];exact(j1f h1 h2).symm
     rw[← this];exact hr
   ·cases hq
  ·cases hq
 unfold arR at h;split at h
 ·rename_i a;split at h
  ·rename_i b;split at h
   ·split at h
    ·rename_i q hq;cases hb:bAnd (allI q.2 a q.1) (allI q.2 b q.1)
     ·rw[hb] at h;cases h
     ·rw[hb,cond_true] at h;injection h with h;subst h
      obtain⟨h1,h2⟩:=v5.1 hb;obtain⟨k1,k2⟩:=key hq h1 h2;exact⟨fun _=>trivial,fun w=>by simp only[RV.cv,yye,run_eqGuard_agg w _ _ _ _ _ _ k1,yyb,binOp,k2,yyf]⟩
    ·cases h
   ·split at h
    ·rename_i q hq;cases hb:bAnd (allI q.2 a q.1) (allI q.2 b q.1)
     ·rw[hb] at h;cases h
     ·rw[hb,cond_true] at h;injection h with h;subst h
      obtain⟨h1,h2⟩:=v5.1 hb;obtain⟨k1,k2⟩:=key hq h1 h2;exact⟨fun _=>trivial,fun w=>by simp only[RV.cv,yye,run_eqGuard_agg w _ _ _ _ _ _ k1,yyb,binOp,k2,yyf]⟩
    ·cases h
   ·cases h
  ·cases h
 ·cases h
def bnR(P:Program)(op:BinOp)(t:TypeId)(x y:Operand)(u v:RV):Option RV:=
 match f_bin op u v with
 |some r=>some r
 |none=>(match arR P op t u v with
  |some r=>some r
  |none=>bnR0 P op t x y u v)
def eq_runR{x y:Value}(h:∀ w,(Op.equal t x y).run P w=.ok b w)(e1:binOp .eql t x y=(do pure (.bool (← Op.equal t x y))))(e2:binOp .neq t x y=(do pure (.bool (!(← Op.equal t x y))))) :
  (∀ w,(binOp .eql t x y).run P w=.ok (.bool b) w)∧∀ w,(binOp .neq t x y).run P w=.ok (.bool !b) w:=
 ⟨fun w=>by rw[e1];simp only[yye,h,yyb,yyf],fun w=>by rw[e2];simp only[yye,h,yyb,yyf]⟩
def q8m{x y:Value}(h:∀ d w,(Op.equalIn (d+1) t x y).run P w=.ok b w):∀ w,(Op.equal t x y).run P w=.ok b w:=fun w=>h 9999 w
def nlR_ok(h:nlR P t u v=some b):(∀ op x y w,(eqGuard op t x y (u.cv ρ) (v.cv ρ)).run P w=.ok () w) ∧
  (∀ w,(Op.equal t (u.cv ρ) (v.cv ρ)).run P w=.ok b w)∧(∀ w,(binOp .eql t (u.cv ρ) (v.cv ρ)).run P w=.ok (.bool b) w)∧∀ w,(binOp .neq t (u.cv ρ) (v.cv ρ)).run P w=.ok (.bool !b) w:=by
 have fin:∀ {x y:Value} {b:Bool},(∀ op p q w,(eqGuard op t p q x y).run P w=.ok () w)→(∀ d w,(Op.equalIn (d+1) t x y).run P w=.ok b w)→binOp .eql t x y=(do pure (.bool (← Op.equal t x y))) →
   binOp .neq t x y=(do pure (.bool (!(← Op.equal t x y))))→(∀ op p q w,(eqGuard op t p q x y).run P w=.ok () w)∧(∀ w,(Op.equal t x y).run P w=.ok b w)∧(∀ w,(binOp .eql t x y).run P w=.ok (.bool b) w) ∧
   ∀ w,(binOp .neq t x y).run P w=.ok (.bool !b) w:=fun g h e1 e2=>⟨g,q8m h,eq_runR (q8m h) e1 e2⟩
 unfold nlR at h;split at h
 ·rename_i e hU;split at h<;>simp only[yya,reduceCtorEq] at h<;>subst h <;>
   (refine fin (fun op p q w=>?_) (fun d w=>?_) rfl rfl
    ·cases op<;>simp[eqGuard,RV.cv]
    ·unfold Op.equalIn;simp only[yye,w4 hU,yyb,RV.cv,yyf];try rfl)
 ·rename_i e hU;split at h<;>simp only[yya,reduceCtorEq] at h<;>subst h <;>
   (refine fin (fun op p q w=>?_) (fun d w=>?_) rfl rfl
    ·cases op<;>simp[eqGuard,RV.cv]
    ·unfold Op.equalIn;simp only[yye,w4 hU,yyb,RV.cv,yyf])
 ·rename_i e hU;split at h<;>simp only[yya,reduceCtorEq] at h<;>subst h <;>
   (refine fin (fun op p q w=>?_) (fun d w=>?_) rfl rfl
    ·cases op<;>simp[eqGuard,RV.cv]
    ·unfold Op.equalIn;simp only[yye,w4 hU,yyb,RV.cv,yyf])
 ·cases h
def bnR0_ok{u v r:RV}(h:bnR0 P op t x y u v=some r):(∀ n,r.bd n)∧∀ w,(do eqGuard op t x y (u.cv ρ) (v.cv ρ);binOp op t (u.cv ρ) (v.cv ρ):Sem Value).run P w=.ok (r.cv ρ) w:=by
 unfold bnR0 at h;split at h
 ·rename_i p hp;split at h
  ·rename_i q hq;split at h
   ·rename_i z hz;rw[q14 hp ρ,q14 hq ρ];refine⟨fun n=>(q1s h ρ n).2,fun w=>?_⟩;rw[(q1s h ρ 0).1];exact w4 hz w
   ·cases h
  ·cases h
 ·split at h
  ·rename_i b hb;obtain⟨e1,_,e2,e3⟩:=nlR_ok (ρ:=ρ) hb;split at h<;>simp only[yya,reduceCtorEq] at h<;>subst h<;>refine⟨fun _=>trivial,fun w=>?_⟩<;>simp only[yye,e1,yyb]
   ·exact e2 w
   ·exact e3 w
  ·cases h
def bnR_ok{u v r:RV}(h:bnR P op t x y u v=some r):(∀ n,r.bd n)∧∀ w,(do eqGuard op t x y (u.cv ρ) (v.cv ρ);binOp op t (u.cv ρ) (v.cv ρ):Sem Value).run P w=.ok (r.cv ρ) w:=by
 unfold bnR at h;split at h
 ·rename_i r' hf;simp only[yya] at h;subst h;cases u<;>simp only[f_bin,reduceCtorEq] at hf
  cases v<;>simp only[reduceCtorEq] at hf
  rename_i k a k' b;cases hk:kEq k k'
  ·rw[hk] at hf;cases hf
  ·rw[hk,cond_true] at hf;have:=j0q hk;subst this;exact⟨(j08 (P:=P) (ρ:=ρ) hf t x y default).2,fun w=>(j08 hf t x y w).1⟩
 ·split at h
  ·rename_i r' hr;injection h with h;subst h
   exact arR_ok hr x y
  ·exact bnR0_ok h
end
end Ox
namespace Ox
noncomputable section
open Go Go.RowKit
variable {X:Ctx}{s:RS}{M:Mem}{ρ:Env}{a:Act}{w w1:World}{P:Program}
abbrev Ents:=List (RV×RV×Nat)
def toME(ρ:Env)(x:RV×RV×Nat):MapEntry:=⟨x.1.cv ρ,x.2.1.cv ρ,x.2.2⟩
def fkR(P:Program)(kt:TypeId)(k:Value):Ents→Nat→Option (Option (Nat×RV))
 |[],_=>some none
 |x::r,j=>match x.1.sc with
  |some e=>(match evS P (Op.equal kt k e) with
   |some true=>some (some (j,x.2.1))
   |some false=>fkR P kt k r (j+1)
   |none=>none)
  |none=>none
variable{d:TypeDesc}
def now_eq{x y:Value}(hd:evS P (underlying kt)=some d)(h:Instr.sameNow d x y=some b):∀ w,(Op.equal kt x y).run P w=.ok b w:=by
 unfold Instr.sameNow at h;split at h
 ·split at h
  ·rename_i hk;simp only[yya] at h;subst h hk;exact q8m fun n w=>by unfold Op.equalIn;simp only[yye,w4 hd,yyb,if_true,yyf]
  ·cases h
 ·simp only[yya] at h;subst h;exact q8m fun n w=>by unfold Op.equalIn;simp only[yye,w4 hd,yyb,yyf]
 ·simp only[yya] at h;subst h;exact q8m fun n w=>by unfold Op.equalIn;simp only[yye,w4 hd,yyb,yyf]
 ·cases h
def mapRes(ρ:Env)(r:Option (Nat×RV)):Option (Nat×Value):=r.map fun p=>(p.1,p.2.cv ρ)
def fkNow{kt:TypeId}{d:TypeDesc}{k:Value}(hd:evS P (underlying kt)=some d)(w:World):∀ {es:Ents} {j:Nat} {r:Option (Nat×RV)} {q:Option (Nat×Value)},fkR P kt k es j=some r →
  Instr.findNow d k (es.map (toME ρ)) j=some q→q=mapRes ρ r
 |[],j,r,q,h,hn=>by simp only[fkR,yya] at h;subst h;simp only[List.map_nil,Instr.findNow,yya] at hn;subst hn;rfl
 |x::es,j,r,q,h,hn=>by
  simp only[fkR] at h;split at h
  ·rename_i e he;simp only[yy0,Instr.findNow,toME,q14 he ρ] at hn;have both:∀ {b b':Bool},evS P (Op.equal kt k e)=some b→Instr.sameNow d k e=some b'→b=b':=fun h1 h2=>by have:=(w4 h1 w).symm.trans (now_eq hd h2 w);injection this
   split at h
   ·rename_i hq;simp only[yya] at h;subst h;split at hn
    ·simp only[yya] at hn;subst hn;rfl
    ·rename_i h2;exact absurd (both hq h2) (by simp)
    ·cases hn
   ·rename_i hq;split at hn
    ·rename_i h2;exact absurd (both hq h2) (by simp)
    ·exact fkNow hd w h hn
    ·cases hn
   ·cases h
  ·cases h
def fkAsk{kt:TypeId}{k:Value}:∀ {es:Ents} {j:Nat} {r:Option (Nat×RV)},fkR P kt k es j=some r→∀ w,(Instr.findAsking kt k (es.map (toME ρ)) j).run P w=.ok (mapRes ρ r) w
 |[],j,r,h,w=>by simp only[fkR,yya] at h;subst h;simp[Instr.findAsking,mapRes]
 |x::es,j,r,h,w=>by
  simp only[fkR] at h;split at h
  ·rename_i e he;simp only[yy0,Instr.findAsking,toME,q14 he ρ];split at h
   ·rename_i hq;simp only[yya] at h;subst h;simp only[yye,w4 hq,yyb,if_true,yyf];rfl
   ·rename_i hq;simp only[yye,w4 hq,yyb,yys,if_false];exact fkAsk h w
   ·cases h
  ·cases h
variable{es:Ents}{r:Option (Nat×RV)}
def fk_run{k:Value}(hd:evS P (underlying kt)=some d)(h:fkR P kt k es 0=some r)(w:World) :
  (Instr.findKey kt k (es.map (toME ρ))).run P w=.ok (mapRes ρ r) w:=by
 unfold Instr.findKey;simp only[yye,w4 hd,yyb];split
 ·rename_i hq;rw[fkNow hd w h hq,yyf]
 ·exact fkAsk h w
def keyR(P:Program)(t:TypeId)(es:Ents)(empty:Bool)(k:RV):Option (TypeId×TypeId×Option (Nat×RV)):=
 match evS P (underlying t) with
 |some (.map kt et)=>(match evS P (underlying kt) with
  |some _=>(match k.sc with
   |some kv=>(match evS P (Instr.checkKey empty 10000 kt kv) with
    |some _=>(match fkR P kt kv es 0 with
     |some r=>some (kt,et,r)
     |none=>none)
    |none=>none)
   |none=>none)
  |none=>none)
 |_=>none
variable{k v:RV}
def z0q(h:keyR P t es empty k=some (kt,et,r)) :
  (∀ w,(underlying t).run P w=.ok (.map kt et) w)∧(∀ w,(Instr.checkKey empty 10000 kt (k.cv ρ)).run P w=.ok () w)∧∀ w,(Instr.findKey kt (k.cv ρ) (es.map (toME ρ))).run P w=.ok (mapRes ρ r) w:=by
 unfold keyR at h;split at h
 ·rename_i hU;split at h
  ·rename_i hd;split at h
   ·rename_i kv hk;split at h
    ·rename_i hc;split at h
     ·rename_i hf;simp only[yya,yyn] at h;obtain⟨rfl,rfl,rfl⟩:=h;rw[q14 hk ρ];exact⟨fun w=>w4 hU w,fun w=>w4 hc w,fun w=>fk_run hd hf w⟩
     ·cases h
    ·cases h
   ·cases h
  ·cases h
 ·cases h
def j05{kt:TypeId}{k:Value}:∀ {es:Ents} {j i:Nat} {v:RV},fkR P kt k es j=some (some (i,v))→∃ e∈es,e.2.1=v
 |[],j,i,v,h=>by simp[fkR] at h
 |x::es,j,i,v,h=>by
  simp only[fkR] at h;split at h
  ·split at h
   ·simp only[yya,yyn] at h;exact⟨x,yyh,h.2⟩
   ·obtain⟨e,h1,h2⟩:=j05 h;exact⟨e,yyj _ h1,h2⟩
   ·cases h
  ·cases h
def z5m{i:Nat}(h:keyR P t es empty k=some (kt,et,some (i,v))):∃ e∈es,e.2.1=v:=by
 unfold keyR at h;split at h
 ·split at h
  ·split at h
   ·split at h
    ·split at h
     ·rename_i hf;simp only[yya,yyn] at h;obtain⟨_,_,e⟩:=h;rw[e] at hf;exact j05 hf
     ·cases h
    ·cases h
   ·cases h
  ·cases h
 ·cases h
def okT(v:RV)(b:Bool)(ok:Bool):RV:=bif ok then .t (.cons v (.cons (.b b) .nil)) else v
noncomputable def lkR(P:Program)(H:Hg)(t:TypeId)(x k:RV)(ok:Bool):Option RV:=
 match x with
 |.m l=>(match hq H l with
  |some (.map es _)=>(match keyR P t es es.isEmpty k with
   |some (_,et,r)=>(match r with
    |some (_,v)=>some (okT v true ok)
    |none=>(match evS P (zeroValue et) with
     |some z=>(match RV.ofV z with
      |some v=>some (okT v false ok)
      |none=>none)
     |none=>none))
   |none=>none)
  |_=>none)
 |_=>none
def okT_bd(h:v.bd n):(okT v b ok).bd n:=by cases ok<;>simp[okT,RV.bd,h]
def lkR_ok(h1:SAT X M ρ s.toS w){x k v:RV}(h:lkR P s.H t x k ok=some v):v.bd s.nx∧∀ w1,Below w.heap.size w w1→(Instr.lookup t (x.cv ρ) (k.cv ρ) ok).run P w1=.ok (v.cv ρ) w1:=by
 unfold lkR at h;split at h
 ·rename_i l;split at h
  ·rename_i es clk hl;obtain⟨_,hd,hg⟩:=q1c h1 hl;simp only[RO.toHO,HO.ok,HO.bd] at hg hd;obtain⟨_,ms,ha,hj⟩:=hg;have hb:ms.toList=es.map (toME ρ):=hj;have he:ms.isEmpty=es.isEmpty:=by
    have:ms.size=es.length:=by rw[← Array.length_toList,hj,yx5]
    cases es<;>simp_all[Array.isEmpty]
   have go:∀ {kt et:TypeId} {r:Option (Nat×RV)} {z:Value},keyR P t es es.isEmpty k=some (kt,et,r)→(match r with|some p=>z=p.2.cv ρ|none=>evS P (zeroValue et)=some z) →
     ∀ w1,Below w.heap.size w w1→(Instr.lookup t (RV.cv ρ (.m l)) (k.cv ρ) ok).run P w1=.ok (if ok then .tuple #[z,.bool r.isSome] else z) w1:=by
    intro kt et r z hk hz w1 hw;obtain⟨k1,k2,k3⟩:=z0q (ρ:=ρ) hk;have hh:w1.heap[ρ.blk l]?=some (.map ms clk):=by rw[hw.block _ (yyi.1 ha).1];exact ha
    unfold Instr.lookup;simp only[yye,k1,yyb,RV.cv,getObj,Sem.run,hh,yyf,he,k2,hb,k3];cases r with
    |some p=>subst hz;simp[mapRes]
    |none=>simp[mapRes,w4 hz]
   split at h
   ·rename_i r hk;split at h
    ·simp only[yya] at h;subst h;obtain⟨e,hu,hy⟩:=z5m hk;refine⟨okT_bd (by rw[← hy];exact(hd e hu).2),fun w1 hw=>(go hk rfl w1 hw).trans ?_⟩;cases ok<;>rfl
    ·split at h
     ·rename_i hz;split at h
      ·rename_i z v hv;simp only[yya] at h;subst h;have ev:=q1s hv ρ s.nx;refine⟨okT_bd ev.2,fun w1 hw=>(go (z:=v.cv ρ) hk (by rw[ev.1];exact hz) w1 hw).trans ?_⟩;cases ok<;>rfl
      ·cases h
     ·cases h
   ·cases h
  ·cases h
 ·cases h
end
end Ox
namespace Ox
open Go Go.RowKit
noncomputable section
variable {X:Ctx}{s:RS}{M:Mem}{ρ:Env}{a:Act}{w w1:World}{P:Program}
def RV.one:RV→Bool
 |.g _|.t _|.u|.nil|.cons _ _=>false
 |_=>true
def RV.ones:RV→Bool
 |.cons a r=>a.one&&r.ones
 |_=>true
def q3l{r:RV}(h:r.one=true)(ρ:Env):(r.cv ρ).oneCell'=true:=by cases r<;>first|rfl|cases h
def q65:∀ {r:RV},r.ones=true→∀ (ρ:Env) (v:Value),v∈r.cl ρ→v.oneCell'=true
 |.cons a r,h,ρ,v,hv=>by
  simp only[RV.ones,yyc] at h;simp only[RV.cl,yyk] at hv;rcases hv with rfl|hv
  ·exact q3l h.1 ρ
  ·exact q65 h.2 ρ v hv
 |.i ..,_,_,_,h|.b _,_,_,_,h|.np,_,_,_,h|.ns,_,_,_,h|.fz,_,_,_,h|.nm,_,_,_,h|.u,_,_,_,h|.nil,_,_,_,h|.p ..,_,_,_,h|.s ..,_,_,_,h|.m _,_,_,_,h|.it _,_,_,_,h|.y _,_,_,_,h|.o ..,_,_,_,h|.f ..,_,_,_,h|.g _,_,_,_,h|.t _,_,_,_,h=>by simp[RV.cl] at h
def q21:∀ {r:RV} {q:Nat},r.ones=true→q<r.len→(r.nth q).one=true
 |.cons a r,0,h,_=>by simp only[RV.ones,yyc] at h;exact h.1
 |.cons a r,q+1,h,hq=>by simp only[RV.ones,yyc] at h;exact q21 (r:=r) h.2 (by rw[o5] at hq;omega)
 |.i ..,_,_,h|.b _,_,_,h|.np,_,_,h|.ns,_,_,h|.fz,_,_,h|.nm,_,_,h|.u,_,_,h|.nil,_,_,h|.p ..,_,_,h|.s ..,_,_,h|.m _,_,_,h|.it _,_,_,h|.y _,_,_,h|.o ..,_,_,h|.f ..,_,_,h|.g _,_,_,h|.t _,_,_,h=>absurd h (Nat.not_lt_zero _)
def RV.cel(r:RV):Option RV:=
 match r with
 |.g c=>bif c.ones then some c else none
 |r=>bif r.one then some (.cons r .nil) else none
def q6h{r c:RV}(h:r.cel=some c)(ρ:Env)(hb:r.bd n):(r.cv ρ).cells=(c.cl ρ).toArray∧c.ones=true∧c.bd n:=by
 unfold RV.cel at h;split at h
 ·rename_i c';cases ho:c'.ones
  ·rw[ho] at h;cases h
  ·rw[ho,cond_true,yya] at h;subst h;exact⟨rfl,ho,hb⟩
 ·cases ho:r.one
  ·rw[ho] at h;cases h
  ·rw[ho,cond_true,yya] at h;subst h;exact⟨q1r (q3l ho ρ),by simp[RV.ones,ho],hb,trivial⟩
def RV.app:RV→RV→RV
 |.cons a r,q=>.cons a (r.app q)
 |_,q=>q
def q2k(ρ:Env)(q:RV):∀ r:RV,(r.app q).cl ρ=r.cl ρ++q.cl ρ
 |.cons a r=>by simp only[RV.app,RV.cl,q2k ρ q r,List.cons_append]
 |.i ..|.b _|.np|.ns|.fz|.nm|.u|.nil|.p ..|.s ..|.m _|.it _|.y _|.o ..|.f ..|.g _|.t _=>rfl
def q1t{n:Nat}{q:RV}(hq:q.bd n):∀ {r:RV},r.bd n→(r.app q).bd n
 |.cons a r,h=>⟨h.1,q1t hq h.2⟩
 |.i ..,_|.b _,_|.np,_|.ns,_|.fz,_|.nm,_|.u,_|.nil,_|.p ..,_|.s ..,_|.m _,_|.it _,_|.y _,_|.o ..,_|.f ..,_|.g _,_|.t _,_=>hq
def RV.spl(cs:RV)(off:Nat)(r:RV):RV:=(cs.tk off).app (r.app (cs.drp (off+r.len)))
def j2h(ρ:Env)(cs:RV)(off:Nat)(r:RV):(cs.spl off r).cl ρ=splice (cs.cl ρ) off (r.cl ρ):=by simp only[RV.spl,q2k,q6f,q8x,splice,j7,yxl]
def j2i{cs r:RV}(h1:cs.bd n)(h2:r.bd n):(cs.spl off r).bd n:=q1t (q1t (q8y h1) h2) (q7y h1)
def fillR(pl:Nat→Option (Nat×Nat))(L:List (Nat×RV)):RV→List (Nat×Operand)→Option RV
 |cs,[]=>some cs
 |cs,p::r=>match pl p.1 with
  |some (off,size)=>(match opv L p.2 with
   |some v=>(match v.cel with
    |some c=>bif Nat.beq c.len size&&Nat.ble (off+size) cs.len then fillR pl L (cs.spl off c) r else none
    |none=>none)
   |none=>none)
  |none=>none
def q7x(h2:REG X M ρ s.toS a){pl:Nat→Option (Nat×Nat)}:∀ {ps:List (Nat×Operand)} {cs v:RV},fillR pl s.L cs ps=some v→cs.bd s.nx →
  v.bd s.nx∧Instr.fill pl (cs.cl ρ).toArray (ps.map fun p=>(p.1,a.eval p.2))=some (v.cl ρ).toArray
 |[],cs,v,h,hb=>by simp only[fillR,yya] at h;subst h;exact⟨hb,rfl⟩
 |p::ps,cs,v,h,hb=>by
  simp only[fillR] at h;split at h
  ·rename_i off size hp;split at h
   ·rename_i u hu;split at h
    ·rename_i c hc;cases hg:Nat.beq c.len size&&Nat.ble (off+size) cs.len
     ·rw[hg] at h;cases h
     ·rw[hg,cond_true] at h;simp only[yyc] at hg;have g1:=yyg hg.1;have g2:=yyd hg.2;have eu:=k8 h2 hu;obtain⟨c1,_,c3⟩:=q6h hc ρ eu.1;obtain⟨e1,e2⟩:=q7x h2 h (j2i hb c3);refine⟨e1,?_⟩;rw[yy0,z0u hp (by rw[eu.2,c1];simp[j7,g1]) (by simp[j7,g2]),eu.2,c1];rw[j2h] at e2;exact e2
    ·cases h
   ·cases h
  ·cases h
def zR(P:Program)(t:TypeId):Option RV:=
 match evS P (zeroValue t) with
 |some z=>(match RV.ofV z with
  |some r=>r.cel
  |none=>none)
 |none=>none
variable{c v z:RV}
def q9x(h:zR P t=some c)(ρ:Env)(n:Nat):c.bd n∧c.ones=true∧∃ z,(∀ w,(zeroValue t).run P w=.ok z w)∧z.cells=(c.cl ρ).toArray∧∀ i,P.info? t=some i→i.zero=some z:=by
 unfold zR at h;split at h
 ·rename_i z hz;split at h
  ·rename_i r hr;have er:=q1s hr ρ n;obtain⟨c1,c2,c3⟩:=q6h h ρ er.2;refine⟨c3,c2,z,fun w=>w4 hz w,by rw[← er.1];exact c1,fun i hi=>?_⟩;have:=w4 hz default;simp only[zeroValue,typeInfo,yye,run_program,yyb,hi,yyf] at this;split at this
   ·rename_i ha;simp only[yyf,Result.ok.injEq,and_true] at this;rw[ha,this]
   ·simp[unsupported,Sem.run] at this
  ·cases h
 ·cases h
def plA(P:Program)(fs:Array Field):Option (Array (Nat×Nat)):=evS P (fs.mapM fun f=>do pure (f.offset,← Go.sizeOf f.type))
def bdR(P:Program)(L:List (Nat×RV))(t:TypeId)(ps:List (Nat×Operand)):Option RV:=
 match zR P t with
 |some z=>(match evS P (underlying t) with
  |some (.struct fs)=>(match plA P fs with
   |some pl=>(match fillR (pl[·]?) L z ps with
    |some c=>some (.g c)
    |none=>none)
   |none=>none)
  |some (.array _ elem)=>(match evS P (Go.sizeOf elem) with
   |some size=>(match fillR (fun i=>some (i*size,size)) L z ps with
    |some c=>some (.g c)
    |none=>none)
   |none=>none)
  |_=>none)
 |none=>none
def bdR_ok(h2:REG X M ρ s.toS a){ps:Array (Nat×Operand)}(h:bdR P s.L t ps.toList=some v) :
  v.bd s.nx∧∀ w,(Instr.build t (ps.map fun(i,x)=>(i,a.eval x))).run P w=.ok (v.cv ρ) w:=by
 unfold bdR at h;have hb:(ps.map fun(x:Nat×Operand)=>(x.1,a.eval x.2)).toList=ps.toList.map fun p=>(p.1,a.eval p.2):=by rw[yxc]
 split at h
 ·rename_i z hz;obtain⟨z1,_,zv,z2,z3,_⟩:=q9x hz ρ s.nx;split at h
  ·rename_i fs hU;split at h
   ·rename_i pl hd;split at h
    ·rename_i c hc;simp only[yya] at h;subst h;obtain⟨e1,e2⟩:=q7x h2 hc z1;refine⟨e1,fun w=>?_⟩;have ha:=w4 hd w;unfold Instr.build;simp only[yye,z2,yyb,w4 hU,ha,z3,hb];rw[e2];rfl
    ·cases h
   ·cases h
  ·rename_i k elem hU;split at h
   ·rename_i size he;split at h
    ·rename_i c hc;simp only[yya] at h;subst h;obtain⟨e1,e2⟩:=q7x h2 hc z1;refine⟨e1,fun w=>?_⟩;unfold Instr.build;simp only[yye,z2,yyb,w4 hU,w4 he,z3,hb];rw[e2];rfl
    ·cases h
   ·cases h
  ·cases h
 ·cases h
def opc(L:List (Nat×RV))(x:Operand):Option Value:=
 match opv L x with
 |some v=>v.sc
 |none=>none
def q5w(h2:REG X M ρ s.toS a){v:Value}(h:opc s.L x=some v):a.eval x=v:=by
 unfold opc at h;split at h
 ·rename_i r hr;rw[(k8 h2 hr).2,q14 h ρ]
 ·cases h
def opcs(L:List (Nat×RV)):List Operand→Option (List Value)
 |[]=>some []
 |x::r=>match opc L x with
  |some v=>(match opcs L r with
   |some l=>some (v::l)
   |none=>none)
  |none=>none
def z3t(h2:REG X M ρ s.toS a):∀ {xs:List Operand} {l:List Value},opcs s.L xs=some l→xs.map a.eval=l
 |[],l,h=>by simp only[opcs,yya] at h;subst h;rfl
 |x::r,l,h=>by
  simp only[opcs] at h;split at h
  ·rename_i v hv;split at h
   ·rename_i l' hl;simp only[yya] at h;subst h;rw[yy0,q5w h2 hv,z3t h2 hl]
   ·cases h
  ·cases h
def fromS(P:Program)(q:Sem Value):Option RV:=
 match evS P q with
 |some v=>RV.ofV v
 |none=>none
variable{q:Sem Value}
def q0z{r:RV}(h:fromS P q=some r)(ρ:Env):(∀ n,r.bd n)∧∀ w,q.run P w=.ok (r.cv ρ) w:=by
 unfold fromS at h;split at h
 ·rename_i v hv;exact⟨fun n=>(q1s h ρ n).2,fun w=>by rw[(q1s h ρ 0).1];exact w4 hv w⟩
 ·cases h
noncomputable def q_pick(L:List (Nat×RV))(c x y:Operand):Option RV:=
 match opv L c with
 |some (.b z)=>bif z then opv L x else opv L y
 |_=>none
noncomputable def q_bin(P:Program)(L:List (Nat×RV))(op:BinOp)(t:TypeId)(x y:Operand):Option RV:=
 match opv L x with
 |some u=>(match opv L y with
  |some v=>bnR P op t x y u v
  |none=>none)
 |none=>none
noncomputable def q_un(P:Program)(L:List (Nat×RV))(op:UnOp)(x:Operand):Option RV:=
 match opc L x with
 |some p=>fromS P (Op.unary op p)
 |none=>none
noncomputable def q_conv(P:Program)(L:List (Nat×RV))(src dst:TypeId)(x:Operand):Option RV:=
 match opc L x with
 |some p=>fromS P (convert src dst p)
 |none=>none
noncomputable def q_ext(L:List (Nat×RV))(x:Operand)(i:Nat):Option RV:=
 match opv L x with
 |some (.t vs)=>bif Nat.blt i vs.len then some (vs.nth i) else none
 |_=>none
noncomputable def q_nil(L:List (Nat×RV))(x:Operand):Option RV:=
 match opv L x with
 |some (.p l o)=>some (.p l o)
 |some (.f g p q)=>some (.f g p q)
 |some (.y l)=>some (.y l)
 |_=>none
noncomputable def q_field(P:Program)(L:List (Nat×RV))(t:TypeId)(x:Operand)(i:Nat):Option RV:=
 match opv L x with
 |some v=>fdR P t v i
 |none=>none
noncomputable def q_fa(P:Program)(L:List (Nat×RV))(t:TypeId)(x:Operand)(i:Nat):Option RV:=
 match opv L x with
 |some v=>faR P t v i
 |none=>none
noncomputable def q_ia(P:Program)(s:RS)(t:TypeId)(x i:Operand):Option RV:=
 match (match x with|.global g=>opg s g|x=>opv s.L x) with
 |some v=>(match opv s.L i with
  |some u=>iaR P s.H t v u
  |none=>none)
 |none=>none
def z83(h1:SAT X M ρ s.toS w)(h2:REG X M ρ s.toS a)(h:(match x with|.global g=>opg s g|x=>opv s.L x)=some v):v.bd s.nx∧a.eval x=v.cv ρ:=by
 split at h
 ·exact opg_ok h1 h
 ·exact k8 h2 h
noncomputable def q_ix(P:Program)(s:RS)(t:TypeId)(x i:Operand):Option RV:=
 match x with
 |.const c=>(match opc s.L i with
  |some u=>fromS P (Instr.index t c u)
  |none=>none)
 |x=>(match opv s.L x with
  |some v=>(match opv s.L i with
   |some u=>ixR P t v u
   |none=>none)
  |none=>none)
noncomputable def q_ld(P:Program)(s:RS)(t:TypeId)(x:Operand):Option RV:=
 match opv s.L x with
 |some v=>ldR P s.H t v
 |none=>none
noncomputable def opvO(L:List (Nat×RV)):Option Operand→Option (Option RV)
 |none=>some none
 |some x=>match opv L x with
  |some v=>some (some v)
  |none=>none
noncomputable def q_sl(P:Program)(s:RS)(t:TypeId)(x:Operand)(lo hi mx:Option Operand):Option RV:=
 match opv s.L x with
 |some v=>(match opvO s.L lo with
  |some l=>(match opvO s.L hi with
   |some h=>(match opvO s.L mx with
    |some m=>slR P s.H t v l h m
    |none=>none)
   |none=>none)
  |none=>none)
 |none=>none
def q6p(h2:REG X M ρ s.toS a){x:Option Operand}{v:Option RV}(h:opvO s.L x=some v):x.map a.eval=v.map (RV.cv ρ):=by
 cases x with
 |none=>simp only[opvO,yya] at h;subst h;rfl
 |some x=>
  simp only[opvO] at h;split at h
  ·rename_i r hr;simp only[yya] at h;subst h;rw[yxn,yxn,(k8 h2 hr).2]
  ·cases h
noncomputable def q_mf(L:List (Nat×RV))(fn:Go.Fn)(first cap:Array Operand):Option RV:=
 match fn with
 |.func f=>(match opvs L first.toList with
  |some x=>(match opvs L cap.toList with
   |some y=>some (.f f x y)
   |none=>none)
  |none=>none)
 |_=>none
noncomputable def q_lk(P:Program)(s:RS)(t:TypeId)(x k:Operand)(ok:Bool):Option RV:=
 match opv s.L x with
 |some v=>(match opv s.L k with
  |some u=>lkR P s.H t v u ok
  |none=>none)
 |none=>none
noncomputable def q_ent(s:RS)(x:Operand):Option RV:=
 match opv s.L x with
 |some (.it l)=>(match hq s.H l with
  |some (.iter m _ _ last (some bk))=>(match hq s.H m with
   |some (.map es clk)=>bif Nat.beq clk last then(match es.find? (fun e=>Nat.beq e.2.2 bk) with
    |some e=>some (.t (.cons e.1 (.cons e.2.1 .nil)))
    |none=>none) else none
   |_=>none)
  |_=>none)
 |_=>none
noncomputable def q_len(P:Program)(s:RS)(args:List Operand)(tys:List TypeId):Option RV:=
 match args with
 |[x]=>(match tys with
  |[t]=>(match opv s.L x with
   |some v=>lnR P s.H t v
   |none=>none)
  |_=>none)
 |_=>none
noncomputable def q_cap(P:Program)(s:RS)(args:List Operand)(tys:List TypeId):Option RV:=
 match args with
 |[x]=>(match tys with
  |[t]=>(match opv s.L x with
   |some v=>cpR P t v
   |none=>none)
  |_=>none)
 |_=>none
noncomputable def q_min(P:Program)(L:List (Nat×RV))(args:List Operand):Option RV:=
 match opcs L args with
 |some l=>fromS P (Builtin.min_ #[] 0 l.toArray)
 |none=>none
noncomputable def q_max(P:Program)(L:List (Nat×RV))(args:List Operand):Option RV:=
 match opcs L args with
 |some l=>fromS P (Builtin.max_ #[] 0 l.toArray)
 |none=>none
noncomputable def q_call(P:Program)(s:RS)(c:Call):Option RV:=
 match c.callee with
 |.builtin b=>(match b with
  |.len=>q_len P s c.args.toList c.argTypes.toList
  |.cap=>q_cap P s c.args.toList c.argTypes.toList
  |.min=>q_min P s.L c.args.toList
  |.max=>q_max P s.L c.args.toList
  |_=>none)
 |_=>none
noncomputable def evR0(P:Program)(s:RS)(o:Op):Option RV:=
 match o with
 |.move x=>opv s.L x
 |.assign x=>opv s.L x
 |.pick c x y=>q_pick s.L c x y
 |.binOp op t x y _=>q_bin P s.L op t x y
 |.unOp op _ x=>q_un P s.L op x
 |.convert src dst x=>q_conv P s.L src dst x
 |.extract x i=>q_ext s.L x i
 |.nilCheck x=>q_nil s.L x
 |.field t x i=>q_field P s.L t x i
 |.fieldAddr t x i=>q_fa P s.L t x i
 |.indexAddr t x i=>q_ia P s t x i
 |.index t x i=>q_ix P s t x i
 |.load t x=>q_ld P s t x
 |.slice t x lo hi mx=>q_sl P s t x lo hi mx
 |.makeFunc fn first cap=>q_mf s.L fn first cap
 |.lookup t x k ok=>q_lk P s t x k ok
 |.entry x=>q_ent s x
 |.build t ps=>bdR P s.L t ps.toList
 |.call c=>q_call P s c
 |_=>none
noncomputable def evR(P:Program)(s:RS)(o:Op):Option RV:=Op.casesOn (motive:=fun _=>Program→RS→Option RV) o (fun a0=>fun _ s=>opv s.L a0) (fun a0=>fun _ s=>opv s.L a0) (fun a0 a1 a2=>fun _ s=>q_pick s.L a0 a1 a2) (fun _=>fun _ _=>none) (fun _ _=>fun _ _=>none) (fun a0 a1=>fun P s=>bdR P s.L a0 a1.toList) (fun _ _ _=>fun _ _=>none) (fun _ _ _ _=>fun _ _=>none) (fun a0 a1=>fun P s=>q_ld P s a0 a1) (fun _ _ _=>fun _ _=>none) (fun _=>fun _ _=>none) (fun _=>fun _ _=>none) (fun a0=>fun _ s=>q_nil s.L a0) (fun a0 a1 a2 a3 a4=>fun P s=>q_bin P s.L a0 a1 a2 a3) (fun a0 a1 a2=>fun P s=>q_un P s.L a0 a2) (fun a0 a1 a2=>fun P s=>q_conv P s.L a0 a1 a2) (fun _ _=>fun _ _=>none) (fun _ _=>fun _ _=>none) (fun a0 a1 a2=>fun _ s=>q_mf s.L a0 a1 a2) (fun _ _=>fun _ _=>none) (fun _ _=>fun _ _=>none) (fun _ _ _=>fun _ _=>none) (fun a0 a1 a2 a3 a4=>fun P s=>q_sl P s a0 a1 a2 a3 a4) (fun a0 a1 a2=>fun P s=>q_fa P s.L a0 a1 a2) (fun a0 a1 a2=>fun P s=>q_field P s.L a0 a1 a2) (fun a0 a1 a2=>fun P s=>q_ia P s a0 a1 a2) (fun a0 a1 a2=>fun P s=>q_ix P s a0 a1 a2) (fun a0 a1 a2 a3=>fun P s=>q_lk P s a0 a1 a2 a3) (fun _ _ _ _=>fun _ _=>none) (fun _ _ _=>fun _ _=>none) (fun _ _ _ _=>fun _ _=>none) (fun _ _=>fun _ _=>none) (fun _ _=>fun _ _=>none) (fun a0=>fun _ s=>q_ent s a0) (fun _ _ _ _=>fun _ _=>none) (fun a0 a1=>fun _ s=>q_ext s.L a0 a1) (fun a0=>fun P s=>q_call P s a0) (fun _=>fun _ _=>none) (fun _=>fun _ _=>none) (fun _=>fun _ _=>none) (fun _ _=>fun _ _=>none) (fun _ _ _=>fun _ _=>none) (fun _ _=>fun _ _=>none) P s
def q28(P:Program)(s:RS)(o:Op):evR P s o=evR0 P s o:=by cases o<;>rfl
def Yl(X:Ctx)(s:RS)(o:Oper)(v:RV):Prop:=∀ M ρ a w,SAT X M ρ s.toS w→REG X M ρ s.toS a→v.bd s.nx∧∀ w1,Below w.heap.size w w1→(execOp a.eval o).run X.P w1=.ok (.value (v.cv ρ)) w1
def p9{v:Value}{w w':World}(h:q.run P w=.ok v w'):(do pure (Next.value (← q)):Sem Next).run P w=.ok (.value v) w':=by simp only[yye,h,yyb,yyf]
def evR_ok{o:Oper}(h:evR X.P s o.op=some v):Yl X s o v∧notDef o.op=true:=by
 obtain⟨dst,op,ty,pos,after,guard⟩:=o;simp only[q28] at h ⊢;refine⟨fun M ρ a w h1 h2=>?_,by cases op<;>first|rfl|(simp[evR0] at h)⟩;cases op<;>simp only[evR0,reduceCtorEq] at h
 case move x=>have e:=k8 h2 h;exact⟨e.1,fun w1 _=>by simp only[execOp,e.2,yyf]⟩
 case assign x=>have e:=k8 h2 h;exact⟨e.1,fun w1 _=>by simp only[execOp,e.2,yyf]⟩
 case pick c x y=>
  unfold q_pick at h;split at h
  ·rename_i z hz;have ez:=(k8 h2 hz).2;cases z
   ·have e:=k8 h2 h;exact⟨e.1,fun w1 _=>by simp only[execOp,ez,RV.cv,asBool,yye,yyf,yyb,yys,if_false,e.2]⟩
   ·have e:=k8 h2 h;exact⟨e.1,fun w1 _=>by simp only[execOp,ez,RV.cv,asBool,yye,yyf,yyb,if_true,e.2]⟩
  ·cases h
 case binOp op t x y yt=>
  unfold q_bin at h;split at h
  ·rename_i u hu;split at h
   ·rename_i z hz;obtain⟨e1,e2⟩:=bnR_ok (ρ:=ρ) h;refine⟨e1 _,fun w1 _=>?_⟩;simp only[execOp,(k8 h2 hu).2,(k8 h2 hz).2];exact p9 (e2 w1)
   ·cases h
  ·cases h
 case unOp op t x=>
  unfold q_un at h;split at h
  ·rename_i p hp;obtain⟨e1,e2⟩:=q0z h ρ;exact⟨e1 _,fun w1 _=>by simp only[execOp,q5w h2 hp];exact p9 (e2 w1)⟩
  ·cases h
 case convert src dst x=>
  unfold q_conv at h;split at h
  ·rename_i p hp;obtain⟨e1,e2⟩:=q0z h ρ;exact⟨e1 _,fun w1 _=>by simp only[execOp,q5w h2 hp];exact p9 (e2 w1)⟩
  ·cases h
 case extract x i=>
  unfold q_ext at h;split at h
  ·rename_i vs hv;cases hb:Nat.blt i vs.len
   ·rw[hb] at h;cases h
   ·rw[hb,cond_true,yya] at h;subst h;have e:=k8 h2 hv;refine⟨t8 e.1,fun w1 _=>?_⟩;simp only[execOp,e.2,RV.cv];refine p9 ?_;simp only[Instr.extract,yxp,q07 ρ (show i<vs.len by simpa using hb),yyf]
  ·cases h
 case nilCheck x=>
  unfold q_nil at h;split at h<;>simp only[yya,reduceCtorEq] at h<;>subst h<;>rename_i hx<;>have e:=k8 h2 hx <;>
   exact⟨e.1,fun w1 _=>by simp only[execOp,e.2,RV.cv,yyf]⟩
 case field t x i=>
  unfold q_field at h;split at h
  ·rename_i u hu;have e:=k8 h2 hu;obtain⟨e1,e2⟩:=fdR_ok (ρ:=ρ) h e.1;exact⟨e1,fun w1 _=>by simp only[execOp,e.2];exact p9 (e2 w1)⟩
  ·cases h
 case fieldAddr t x i=>
  unfold q_fa at h;split at h
  ·rename_i u hu;have e:=k8 h2 hu;obtain⟨e1,e2⟩:=z52 (ρ:=ρ) h e.1;exact⟨e1,fun w1 _=>by simp only[execOp,e.2];exact p9 (e2 w1)⟩
  ·cases h
 case indexAddr t x i=>
  unfold q_ia at h;split at h
  ·rename_i u hu;split at h
   ·rename_i z hz;have e:=z83 h1 h2 hu;obtain⟨e1,e2⟩:=iaR_ok h1 h e.1;exact⟨e1,fun w1 _=>by simp only[execOp,e.2,(k8 h2 hz).2];exact p9 (e2 w1)⟩
   ·cases h
  ·cases h
 case index t x i=>
  unfold q_ix at h;split at h
  ·rename_i c;split at h
   ·rename_i u hu;obtain⟨e1,e2⟩:=q0z h ρ;exact⟨e1 _,fun w1 _=>by simp only[execOp,q5w h2 hu,show a.eval (.const c)=c from rfl];exact p9 (e2 w1)⟩
   ·cases h
  ·split at h
   ·rename_i u hu;split at h
    ·rename_i z hz;have e:=k8 h2 hu;obtain⟨e1,e2⟩:=ixR_ok (ρ:=ρ) h e.1;exact⟨e1,fun w1 _=>by simp only[execOp,e.2,(k8 h2 hz).2];exact p9 (e2 w1)⟩
    ·cases h
   ·cases h
 case load t x=>
  unfold q_ld at h;split at h
  ·rename_i u hu;have e:=k8 h2 hu;obtain⟨e1,e2⟩:=ldR_ok h1 h;exact⟨e1,fun w1 hw=>by simp only[execOp,e.2];exact p9 (e2 w1 hw)⟩
  ·cases h
 case slice t x lo hi mx=>
  unfold q_sl at h;split at h
  ·rename_i u hu;split at h
   ·rename_i l hl;split at h
    ·rename_i hh hE;split at h
     ·rename_i m hm;have e:=k8 h2 hu;obtain⟨e1,e2⟩:=slR_ok h1 h e.1;refine⟨e1,fun w1 _=>?_⟩;simp only[execOp,e.2,q6p h2 hl,q6p h2 hE,q6p h2 hm];exact p9 (e2 w1)
     ·cases h
    ·cases h
   ·cases h
  ·cases h
 case makeFunc fn first cap=>
  unfold q_mf at h;split at h
  ·split at h
   ·rename_i x hx;split at h
    ·rename_i y hy;simp only[yya] at h;subst h;have ex:=q41 h2 hx;have ey:=q41 h2 hy;refine⟨⟨ex.1,ey.1⟩,fun w1 _=>?_⟩;simp only[execOp];refine p9 ?_;simp only[Instr.makeFunc,yyf,RV.cv,← ex.2,← ey.2,← yxc]
    ·cases h
   ·cases h
  ·cases h
 case lookup t x k ok=>
  unfold q_lk at h;split at h
  ·rename_i u hu;split at h
   ·rename_i z hz;have e:=k8 h2 hu;obtain⟨e1,e2⟩:=lkR_ok h1 h;exact⟨e1,fun w1 hw=>by simp only[execOp,e.2,(k8 h2 hz).2];exact p9 (e2 w1 hw)⟩
   ·cases h
  ·cases h
 case entry x=>
  unfold q_ent at h;split at h
  ·rename_i l hx;split at h
   ·rename_i m since seen last bk hl;split at h
    ·rename_i es clk hm;cases hc:Nat.beq clk last
     ·rw[hc] at h;cases h
     ·rw[hc,cond_true] at h;have hc:=yyg hc;subst hc;split at h
      ·rename_i e he;simp only[yya] at h;subst h;obtain⟨_,hA,hD⟩:=q1c h1 hm;obtain⟨_,_,hj⟩:=q1c h1 hl;simp only[RO.toHO,HO.ok,HO.bd] at hD hA hj;obtain⟨_,ms,hg,hF⟩:=hD;obtain⟨_,sn,hd,_,hB⟩:=hj;have hB:=hB bk rfl;have hk:=List.mem_of_find?_eq_some he;refine⟨⟨(hA e hk).1,(hA e hk).2,trivial⟩,fun w1 hw=>?_⟩;have g1:w1.heap[ρ.blk m]?=some (.map ms clk):=by rw[hw.block _ (yyi.1 hg).1];exact hg
       have g2:w1.heap[ρ.blk l]?=some (.mapIter (some (ρ.blk m)) since sn clk):=by rw[hw.block _ (yyi.1 hd).1];exact hd
       have g3:ms.find? (fun e=>e.born==bk)=some (toME ρ e):=by
        rw[← Array.find?_toList,hF,List.find?_map];have:((fun e:MapEntry=>e.born==bk)∘fun x:RV×RV×Nat=>(⟨x.1.cv ρ,x.2.1.cv ρ,x.2.2⟩:MapEntry))=fun e=>Nat.beq e.2.2 bk:=by
         funext x;simp only[Function.comp];cases h:Nat.beq x.2.2 bk
         ·have:x.2.2≠bk:=fun e=>by rw[e] at h;simp at h
          simpa using this
         ·simpa using yyg h
        rw[this,he];rfl
       simp only[execOp,(k8 h2 hx).2,RV.cv];refine p9 ?_;unfold Instr.entry;simp only[yye,getObj,Sem.run,g2,hB,g1,yyb,bne_self_eq_false,yys,if_false,g3,yyf];rfl
      ·cases h
    ·cases h
   ·cases h
  ·cases h
 case build t ps=>obtain⟨e1,e2⟩:=bdR_ok h2 h;exact⟨e1,fun w1 _=>by simp only[execOp];exact p9 (e2 w1)⟩
 case call c=>
  obtain⟨callee,args,argTypes⟩:=c;unfold q_call at h;simp only at h;split at h
  ·rename_i b;have ha:(args.map a.eval)=(args.toList.map a.eval).toArray:=by rw[← yxc]
   split at h
   ·unfold q_len at h;split at h
    ·rename_i x hx;split at h
     ·rename_i t ht;split at h
      ·rename_i u hu;have e:=k8 h2 hu;obtain⟨e1,e2⟩:=lnR_ok h1 h;refine⟨e1 _,fun w1 hw=>?_⟩;have hC:argTypes=#[t]:=by rw[← Array.toArray_toList (xs:=argTypes),ht]
       simp only[execOp,resolve,ha,hx,yy0,List.map_nil,e.2,hC,yye,yyf,yyb,invoke,builtin];simp only[e2 w1 hw,yyb]
      ·cases h
     ·cases h
    ·cases h
   ·unfold q_cap at h;split at h
    ·rename_i x hx;split at h
     ·rename_i t ht;split at h
      ·rename_i u hu;have e:=k8 h2 hu;obtain⟨e1,e2⟩:=cpR_ok (ρ:=ρ) h;refine⟨e1 _,fun w1 hw=>?_⟩;have hC:argTypes=#[t]:=by rw[← Array.toArray_toList (xs:=argTypes),ht]
       simp only[execOp,resolve,ha,hx,yy0,List.map_nil,e.2,hC,yye,yyf,yyb,invoke,builtin];simp only[e2 w1,yyb]
      ·cases h
     ·cases h
    ·cases h
   ·unfold q_min at h;split at h
    ·rename_i l hl;obtain⟨e1,e2⟩:=q0z h ρ;refine⟨e1 _,fun w1 hw=>?_⟩;simp only[execOp,resolve,ha,z3t h2 hl,yye,yyf,yyb,invoke,builtin];have:=e2 w1;simp only[Builtin.min_] at this ⊢;simp only[this,yyb]
    ·cases h
   ·unfold q_max at h;split at h
    ·rename_i l hl;obtain⟨e1,e2⟩:=q0z h ρ;refine⟨e1 _,fun w1 hw=>?_⟩;simp only[execOp,resolve,ha,z3t h2 hl,yye,yyf,yyb,invoke,builtin];have:=e2 w1;simp only[Builtin.max_] at this ⊢;simp only[this,yyb]
    ·cases h
   ·cases h
  ·cases h
variable {s':RS}{w':World}
def SAT.sub{s1 s2:S}(h:SAT X M ρ s1 w)(hH:∀ l o,lk s2.H l=some o→lk s1.H l=some o)(hb:s1.nx≤s2.nx):SAT X M ρ s2 w:=⟨h.below,h.msub,h.mnew,h.mem,fun l o hl=>let e:=h.own l o (hH l o hl);⟨yxa e.1 hb,s6 hb e.2.1,e.2.2⟩,fun l l' o o' b e1 e2=>h.apart l l' o o' b (hH l o e1) (hH l' o' e2),fun l o b e=>h.notM l o b (hH l o e)⟩
def SAT.updO(h:SAT X M ρ s.toS w){o o':RO}(hl:hq s.H l=some o)(hg:w.grownBy w' (o.toHO.at ρ l))(ha:o'.toHO.at ρ l=o.toHO.at ρ l)(hb:o'.toHO.bd s.nx)(hd:o'.toHO.ok X M ρ l w')(hn:isNo o'=false:=by rfl) :
  SAT X M ρ (⟨s.L,updR s.H l o',s.nx⟩:RS).toS w':=by
 have h':lk s.toS.H l=some o.toHO:=lkH hl;refine(h.upd h' hg ha hb hd).sub (fun m q hm=>?_) (yyl _);show lk (updH (mapH s.H) l o'.toHO) m=some q;rw[q2u _ _ _ _ (by rw[lkH hl];rfl)];rcases z1h hn hm with⟨e1,e2⟩|⟨e1,e2⟩
 ·rw[if_pos e1,e2]
 ·have:=z7f hl;rw[if_neg (by rcases e2 with e2|e2<;>omega)];exact e1
structure CellsAt(n:Nat)(c:Nat→RV)(ρ:Env)(cs:Array Value):Prop where
 size:n≤cs.size
 at_:∀ i,i<n→cs[i]?=some ((c i).cv ρ)∧((c i).cv ρ).oneCell'=true
def capOk(k:Option Nat)(b n:Nat)(cs:Array Value)(sv:Value):Prop:=
 match k with|none=>cs.size=n|some e=>∃ m cap,sv=.slice (some ⟨b,0,none⟩) m cap∧n=m*e∧cs.size=cap*e∧m≤cap∧cap≤maxLen
variable{b:Nat}{H':Hg}
def SAT.newO(h1:SAT X M ρ s.toS w){o:RO}(hg:w.grownBy w' row)(hd:∀ b,row=some b→X.E.heap.size≤b∧M b=none)
  (ha:∀ l o,lk (mapH H') l=some o→lk (mapH s.H) l=some o∧∀ b,o.at ρ l=some b→row≠some b) (hb:row=some b∨w.heap.size≤b) (hh:o.toHO.bd (s.nx+1))
  (hj:o.toHO.at (ρ.with s.nx b .nil sv) s.nx=some b) (hk:o.toHO.ok X M (ρ.with s.nx b .nil sv) s.nx w') (hn:isNo o=false:=by rfl) :
  SAT X M (ρ.with s.nx b .nil sv) (⟨s.L,updR H' s.nx (o),s.nx+1⟩:RS).toS w':=by
 suffices hS:SAT X M (ρ.with s.nx b .nil sv) (⟨mapR s.L,(s.nx,o.toHO)::mapH H',s.nx+1⟩:S) w' by
  refine hS.sub (fun m q hm=>?_) (yyl _);show lk ((s.nx,o.toHO)::mapH H') m=some q;rcases z1h hn hm with⟨e1,e2⟩|⟨e1,_⟩
  ·subst e1;rw[e2];simp[lk]
  ·have:=(h1.own m q (ha m q e1).1).1;have hu:s.nx≠m:=fun e=>by have:m<s.nx:=this;omega
   simp only[lk,if_neg hu];exact e1
 refine h1.add (H':=mapH H') hg hd ha (j8 ρ s.nx b .nil sv) hh hk fun b' he=>?_;change HO.at (ρ.with s.nx b .nil sv) s.nx o.toHO=some b' at he;rw[hj] at he;injection he with he;subst he
 rcases hb with hb|hb
 ·exact⟨(hd b hb).2,fun l o1 hl e=>(ha l o1 hl).2 b e hb⟩
 ·refine⟨?_,fun l o1 hl e=>?_⟩
  ·cases hM:M b with
   |none=>rfl
   |some q=>have:=(yyi.1 (h1.mem b q hM)).1;omega
  ·have:=(p4 (h1.own l o1 (ha l o1 hl).1).2.2 e).2;omega
variable{ρ':Env}{k:Option Nat}
def j1x{t:Tr}(hb:ρ'.blk l=b)(hE:X.E.heap.size≤b)(hh:w.heap[b]?=some (.cells cs ty (0,0)))(hc:CellsAt n t.get ρ' cs)(hk:capOk k b n cs (ρ'.sv l)) :
  (RO.blk ty k n d t).toHO.ok X M ρ' l w:=by
 subst hb;simp only[RO.toHO,HO.ok];exact⟨hE,cs,hh,hc.size,hc.at_,hk⟩
def CellsAt.env{c:Nat→RV}(h:CellsAt n c ρ cs)(hr:ρ.upTo ρ' m)(hb:∀ i,i<n→(c i).bd m):CellsAt n c ρ' cs:=⟨h.size,fun i hi=>by rw[q0b hr (hb i hi)];exact h.at_ i hi⟩
def z4o{r:RV}(ho:r.ones=true)(h:r.len≤2 ^ d):CellsAt r.len (Tr.ofL d r).get ρ (r.cl ρ).toArray:=by refine⟨by simp[j7],fun i hi=>?_⟩;rw[q63 h hi];exact⟨by rw[yxp];exact q07 ρ hi,q3l (q21 ho hi) ρ⟩
def dep(n:Nat):Nat:=bif Nat.ble n 1 then 0 else Nat.log2 (n-1)+1
def q3g(n:Nat):n≤2 ^ dep n:=by
 unfold dep;cases h:Nat.ble n 1
 ·have:n-1<2 ^ (Nat.log2 (n-1)+1):=Nat.lt_log2_self;rw[cond_false];omega
 ·have:=yyd h;simpa using this
def DidR(X:Ctx)(M:Mem)(ρ:Env)(s:RS)(v:RV)(s':RS)(res:Result Next):Prop:=∃ ρ' w' n,res=.ok n w'∧ρ.upTo ρ' s.nx∧s.nx≤s'.nx∧s'.L=s.L∧SAT X M ρ' s'.toS w'∧v.bd s'.nx∧(n=.value (v.cv ρ')∨(n=.skip∧v=.u))
def Dd(X:Ctx)(s:RS)(o:Oper)(v:RV)(s':RS):Prop:=∀ M ρ a w,SAT X M ρ s.toS w→REG X M ρ s.toS a→DidR X M ρ s v s' ((execOp a.eval o).run X.P w)
variable{r:Result Next}
def j1n(h1:SAT X M ρ s.toS w)(hb:c.bd s.nx)(ho:c.ones=true)(he:cs=(c.cl ρ).toArray)(hk:capOk k w.heap.size c.len cs sv)
  (hr:r=.ok (.value (v.cv (ρ.with s.nx w.heap.size .nil sv))) (w.alloc (.cells cs ty))) (hv:v.bd (s.nx+1)) :
  DidR X M ρ s v ⟨s.L,updR s.H s.nx (.blk ty k c.len (dep c.len) (Tr.ofL (dep c.len) c)),s.nx+1⟩ r:=by
 subst he;have hd:=j8 ρ s.nx w.heap.size .nil sv;refine⟨_,_,_,hr,hd,yy5 _,rfl,?_,hv,.inl rfl⟩;have ha:∀ i,i<c.len→((Tr.ofL (dep c.len) c).get i).bd s.nx:=fun i hi=>by rw[q63 (q3g _) hi];exact t8 hb
 refine h1.newO (w':=w.alloc (.cells (c.cl ρ).toArray ty)) (row:=none) (b:=w.heap.size) (World.grownBy_alloc w _ none) (fun b hb=>by cases hb) (fun l o hl=>⟨hl,fun _ _=>by simp⟩) (.inr (yyl _))
  (fun i hi=>q0w (yy5 _) (ha i hi)) (by simp[RO.toHO,HO.at,Env.with]) (j1x (b:=w.heap.size) (by simp[Env.with]) h1.below.size (heap_alloc_new w _) ?_ ?_)
 ·exact(z4o ho (q3g _)).env hd ha
 ·have:(ρ.with s.nx w.heap.size .nil sv).sv s.nx=sv:=by simp[Env.with]
  rw[this];exact hk
variable{tr:Tr}
def z84(h:CellsAt n tr.get ρ cs)(ho:c.ones=true)(he:off+c.len≤n)(hd:n≤2 ^ d) :
  CellsAt n (Tr.put d c tr off).get ρ (splice cs.toList off (c.cl ρ)).toArray:=by
 have ha:=j7 ρ c;have hs:=h.size;refine⟨by simp[splice,ha];omega,fun i hi=>?_⟩;rw[s5 (by omega) (by omega),yxp];simp only[splice];have hb:(cs.toList.take off).length=off:=by simp;omega
 by_cases h1:i<off
 ·rw[if_neg (by omega),List.getElem?_append_left (by simp[ha];omega),List.getElem?_append_left (by omega),yxm,if_pos h1,yxw];exact h.at_ i hi
 ·by_cases h2:i<off+c.len
  ·rw[if_pos ⟨by omega,h2⟩,List.getElem?_append_left (by simp[ha];omega),List.getElem?_append_right (by omega),hb];exact⟨q07 ρ (by omega),q3l (q21 ho (by omega)) ρ⟩
  ·rw[if_neg (by omega),List.getElem?_append_right (by simp[ha];omega)];simp only[yyz,hb,ha,List.getElem?_drop,yxw];rw[show off+c.len+(i-(off+c.len))=i by omega];exact h.at_ i hi
def put_bd(h:∀ i,i<n→(tr.get i).bd m)(hc:c.bd m)(ha:off+c.len≤n)(hd:n≤2 ^ d):∀ i,i<n→((Tr.put d c tr off).get i).bd m:=fun i hi=>by
 rw[s5 (by omega) (by omega)];split
 ·exact t8 hc
 ·exact h i hi
def z00(h1:SAT X M ρ s.toS w)(hl:hq s.H l=some (.blk ty k n d tr))(hb:c.bd s.nx)(ho:c.ones=true)(hh:off+c.len≤n)(hd:n≤2 ^ d) :
  ∃ w',(storeCells ⟨ρ.blk l,off,none⟩ (c.cl ρ)).run X.P w=.ok () w'∧SAT X M ρ (⟨s.L,updR s.H l (.blk ty k n d (Tr.put d c tr off)),s.nx⟩:RS).toS w':=by
 obtain⟨_,hj,hu⟩:=q1c h1 hl;simp only[RO.toHO,HO.ok,HO.bd] at hu hj;obtain⟨hE,cs,ha,hv,hw,hk⟩:=hu;have he:=run_storeCells_at X.P (ρ.blk l) off ty (c.cl ρ) 0 cs w ha (by rw[j7];omega) (q65 ho ρ);refine⟨_,he,h1.updO hl (q0y _ _ _) rfl (put_bd hj hb hh hd) (j1x rfl hE (setRow_heap w _ cs _ ty (0,0) ha) ?_ ?_)⟩
 ·have:=z84 (d:=d) ⟨hv,hw⟩ ho hh hd;simpa[splice] using this
 ·have hg:(cs.toList.take (off+0)++c.cl ρ++cs.toList.drop (off+0+(c.cl ρ).length)).toArray.size=cs.size:=by simp[j7];omega
  unfold capOk;rw[hg];exact hk
noncomputable def m_store(P:Program)(s:RS)(t:TypeId)(x y:Operand):Option (RV×RS):=
 match opv s.L x with
 |some (.p l off)=>(match hq s.H l with
  |some (.blk ty k n d tr)=>(match opv s.L y with
   |some v=>(match v.cel with
    |some c=>(match evS P (Go.sizeOf t) with
     |some sz=>bif Nat.beq c.len sz&&Nat.ble (off+sz) n&&Nat.ble n (2 ^ d) then some (.u,⟨s.L,updR s.H l (.blk ty k n d (Tr.put d c tr off)),s.nx⟩) else none
     |none=>none)
    |none=>none)
   |none=>none)
  |_=>none)
 |_=>none
def z69(h:m_store X.P s t x y=some (v,s'))(h1:SAT X M ρ s.toS w)(h2:REG X M ρ s.toS a) :
  DidR X M ρ s v s' ((do Instr.storeAt t (a.eval x) (a.eval y);pure .skip:Sem Next).run X.P w):=by
 unfold m_store at h;split at h
 ·rename_i l off hx;split at h
  ·rename_i ty k n d tr hl;split at h
   ·rename_i u hu;split at h
    ·rename_i c hc;split at h
     ·rename_i sz ha;cases hg:Nat.beq c.len sz&&Nat.ble (off+sz) n&&Nat.ble n (2 ^ d)
      ·rw[hg] at h;cases h
      ·rw[hg,cond_true,yya,yyn] at h;obtain⟨rfl,rfl⟩:=h;simp only[yyc] at hg;have g1:=yyg hg.1.1;have g2:=yyd hg.1.2;have g3:=yyd hg.2;subst g1;have eu:=k8 h2 hu;obtain⟨c1,c2,c3⟩:=q6h hc ρ eu.1;obtain⟨w',e1,e2⟩:=z00 h1 hl c3 c2 g2 g3;refine⟨ρ,w',.skip,?_,Env.upTo.refl _ _,yyl _,rfl,e2,trivial,.inr ⟨rfl,rfl⟩⟩;have hst:(storeVar t ⟨ρ.blk l,off,none⟩ (u.cv ρ)).run X.P w=.ok () w':=by unfold storeVar;simp only[yye,w4 ha,yyb,c1];rw[if_neg (by simp[j7])];exact e1
       simp only[Instr.storeAt,(k8 h2 hx).2,eu.2,RV.cv,Instr.sureAddr,yye,yyf,yyb,hst]
     ·cases h
    ·cases h
   ·cases h
  ·cases h
 ·cases h
def nblk(s:RS)(ty:TypeId)(k:Option Nat)(c:RV):RS:=⟨s.L,updR s.H s.nx (.blk ty k c.len (dep c.len) (Tr.ofL (dep c.len) c)),s.nx+1⟩
noncomputable def m_alloc(P:Program)(s:RS)(t:TypeId):Option (RV×RS):=
 match zR P t with
 |some c=>some (.p s.nx 0,nblk s t none c)
 |none=>none
def q1k:(newRow t cs).run P w=.ok ⟨w.heap.size,0,none⟩ (w.alloc (.cells cs t)):=by simp only[newRow,newObj,yye,Sem.run,yyf,yyb];rfl
def j1l{z:Array Value}(h1:SAT X M ρ s.toS w)(hb:c.bd s.nx)(ho:c.ones=true)(hz:z=(c.cl ρ).toArray)
  (hr:r=.ok (.value (.pointer (some ⟨w.heap.size,0,none⟩))) (w.alloc (.cells z t))):DidR X M ρ s (.p s.nx 0) (nblk s t none c) r:=by
 refine j1n (sv:=Go.undef) h1 hb ho hz (by simp[capOk,hz,j7]) ?_ (yy2 _);rw[hr];simp only[RV.cv,Env.with,if_true]
def z7a{old:Value}(h:m_alloc X.P s t=some (v,s'))(h1:SAT X M ρ s.toS w):DidR X M ρ s v s' ((do pure (Next.value (← Instr.alloc t true old)):Sem Next).run X.P w):=by
 unfold m_alloc at h;split at h
 ·rename_i c hc;simp only[yya,yyn] at h;obtain⟨rfl,rfl⟩:=h;obtain⟨c1,c2,z,c3,c4,_⟩:=q9x hc ρ s.nx;refine j1l h1 c1 c2 c4 ?_;simp only[Instr.alloc,newVar,yye,c3,yyb,q1k,yyf]
 ·cases h
noncomputable def m_box(s:RS)(t:TypeId)(x:Operand):Option (RV×RS):=
 match opv s.L x with
 |some v=>(match v.cel with
  |some c=>some (.p s.nx 0,nblk s t none c)
  |none=>none)
 |none=>none
def m_box_ok(h:m_box s t x=some (v,s'))(h1:SAT X M ρ s.toS w)(h2:REG X M ρ s.toS a):DidR X M ρ s v s' ((do pure (Next.value (← Instr.box t (a.eval x))):Sem Next).run X.P w):=by
 unfold m_box at h;split at h
 ·rename_i u hu;split at h
  ·rename_i c hc;simp only[yya,yyn] at h;obtain⟨rfl,rfl⟩:=h;have eu:=k8 h2 hu;obtain⟨c1,c2,c3⟩:=q6h hc ρ eu.1;refine j1l h1 c3 c2 c1 ?_;simp only[Instr.box,newVar,eu.2,yye,yyb,q1k,yyf]
  ·cases h
 ·cases h
def RV.rep(z:RV):Nat→RV
 |0=>.nil
 |n+1=>z.app (z.rep n)
def q3j(ρ:Env)(z:RV):∀ n,(z.rep n).cl ρ=(List.replicate n (z.cl ρ)).flatten
 |0=>rfl
 |n+1=>by rw[RV.rep,q2k,q3j ρ z n,List.replicate_succ,List.flatten_cons]
def q3k{z:RV}{k:Nat}(h:z.bd k):∀ n,(z.rep n).bd k
 |0=>trivial
 |n+1=>q1t (q3k h n) h
def q49{q:RV}(hq:q.ones=true):∀ {r:RV},r.ones=true→(r.app q).ones=true
 |.cons a r,h=>by simp only[RV.ones,yyc] at h;simp only[RV.app,RV.ones,yyc];exact⟨h.1,q49 hq h.2⟩
 |.i ..,_|.b _,_|.np,_|.ns,_|.fz,_|.nm,_|.u,_|.nil,_|.p ..,_|.s ..,_|.m _,_|.it _,_|.y _,_|.o ..,_|.f ..,_|.g _,_|.t _,_=>hq
def q20{z:RV}(h:z.ones=true):∀ n,(z.rep n).ones=true
 |0=>rfl
 |n+1=>q49 (q20 h n) h
def z74(ρ:Env)(n size:Nat)(z:RV){zc:Array Value}(hz:zc=(z.cl ρ).toArray)(hl:z.len=size):(Array.range (n*size)).map (fun x=>zc[x % zc.size]!)=((z.rep n).cl ρ).toArray:=by subst hz hl;apply Array.ext';rw[q3j];have:=q2a n (z.cl ρ);rw[j7] at this;exact this
def z0z{e m cap:Nat}(h1:SAT X M ρ s.toS w)(hb:c.bd s.nx)(ho:c.ones=true)(he:cs=(c.cl ρ).toArray)(ha:c.len=cap*e)(hm:m≤cap)(hd:cap≤maxLen)
  (hr:r=.ok (.value (.slice (some ⟨w.heap.size,0,none⟩) m cap)) (w.alloc (.cells cs ty))):DidR X M ρ s (.o s.nx e 0 m false 0) (nblk s ty (some e) c) r:=by
 refine j1n (k:=some e) (sv:=.slice (some ⟨w.heap.size,0,none⟩) cap cap) h1 hb ho he ⟨cap,cap,rfl,ha,by rw[he];simp[j7,ha],yyl _,hd⟩ ?_ (yy2 _);rw[hr];simp[RV.cv,Env.with,Value.capN]
noncomputable def m_bsl0(P:Program)(s:RS)(t:TypeId):Option (RV×RS):=
 match evS P (underlying t) with
 |some (.slice elem)=>(match evS P (Go.sizeOf elem) with
  |some size=>some (.o s.nx size 0 0 false 0,nblk s elem (some size) .nil)
  |none=>none)
 |_=>none
def z95(h:m_bsl0 X.P s t=some (v,s'))(h1:SAT X M ρ s.toS w):DidR X M ρ s v s' ((do pure (Next.value (← Instr.buildSlice t 0 #[])):Sem Next).run X.P w):=by
 unfold m_bsl0 at h;split at h
 ·rename_i elem hU;split at h
  ·rename_i size ha;simp only[yya,yyn] at h;obtain⟨rfl,rfl⟩:=h;refine z0z (cap:=0) h1 trivial rfl rfl (by simp[RV.len]) (yyl _) (yyw _) ?_;unfold Instr.buildSlice;simp only[yye,w4 hU,w4 ha,yyb,yyf];simp[Instr.fill,q1k,RV.cl,Array.range_zero',Array.map_empty]
  ·cases h
 ·cases h
noncomputable def m_bsl(P:Program)(s:RS)(t:TypeId)(n:Nat)(ps:List (Nat×Operand)):Option (RV×RS):=
 match evS P (underlying t) with
 |some (.slice elem)=>(match evS P (Go.sizeOf elem) with
  |some size=>(match zR P elem with
   |some z=>(match fillR (fun i=>some (i*size,size)) s.L (z.rep n) ps with
    |some c=>bif c.ones&&Nat.beq z.len size&&Nat.beq c.len (n*size)&&Nat.blt 0 (n*size)&&Nat.ble (n*size) 16777216 then some (.o s.nx size 0 n false 0,nblk s elem (some size) c) else none
    |none=>none)
   |none=>none)
  |none=>none)
 |_=>none
def m_bsl_ok{ps:Array (Nat×Operand)}(h:m_bsl X.P s t n ps.toList=some (v,s'))(h1:SAT X M ρ s.toS w)(h2:REG X M ρ s.toS a) :
  DidR X M ρ s v s' ((do pure (Next.value (← Instr.buildSlice t n (ps.map fun(i,x)=>(i,a.eval x)))):Sem Next).run X.P w):=by
 have ha:(ps.map fun(x:Nat×Operand)=>(x.1,a.eval x.2)).toList=ps.toList.map fun p=>(p.1,a.eval p.2):=by rw[yxc]
 unfold m_bsl at h;split at h
 ·rename_i elem hU;split at h
  ·rename_i size hb;split at h
   ·rename_i z hz;split at h
    ·rename_i c hc;cases hg:c.ones&&Nat.beq z.len size&&Nat.beq c.len (n*size)&&Nat.blt 0 (n*size)&&Nat.ble (n*size) 16777216
     ·rw[hg] at h;cases h
     ·rw[hg,cond_true,yya,yyn] at h;obtain⟨rfl,rfl⟩:=h;simp only[yyc] at hg;obtain⟨⟨⟨⟨g1,g2⟩,g3⟩,g4⟩,g5⟩:=hg;have g2:=yyg g2;have g3:=yyg g3;have g4:0<n*size:=by simpa using g4
      have g5:=yyd g5;obtain⟨z1,z2,zv,z3,z4,_⟩:=q9x hz ρ s.nx;obtain⟨e1,e2⟩:=q7x h2 hc (q3k z1 n);have hs:1≤size:=by
       rcases Nat.eq_zero_or_pos size with h|h
       ·rw[h] at g4;simp at g4
       ·exact h
      have hn:n≤maxLen:=by have:n*1≤n*size:=Nat.mul_le_mul_left _ hs;simp only[maxLen];omega
      refine z0z h1 e1 g1 rfl g3 (yyl _) hn ?_;unfold Instr.buildSlice;simp only[yye,w4 hU,w4 hb,yyb,yyf];rw[if_neg (show ¬ n*size>2 ^ 24 by omega)];rw[if_neg (show ¬ n*size=0 by omega)];simp only[yye,z3,yyb,yyf,ha];have hd:=z74 ρ n size z z4 g2;rw[hd,e2];simp only[yye,q1k,yyb,yyf]
    ·cases h
   ·cases h
  ·cases h
 ·cases h
def slN:RV→Option Nat
 |.ns=>some 0
 |.s _ _ n _=>some n
 |.o _ _ lo hi _ _=>some (hi-lo)
 |_=>none
def z1n{x:RV}(h:slN x=some n)(ρ:Env):∃ ad c,x.cv ρ=.slice ad n c:=by cases x<;>simp only[slN,yya,reduceCtorEq] at h<;>subst h<;>exact⟨_,_,rfl⟩
def srcR(H:Hg)(size:Nat)(x:RV):Option (Nat×RV):=
 match slB x with
 |some (l,off,n)=>(match hq H l with
  |some (.blk _ _ nn _ tr)=>bif Nat.ble (off+n*size) nn&&okO H x&&Nat.blt 0 n then some (n,tr.cut (n*size) off) else none
  |_=>none)
 |none=>none
def one_of{r:RV}(h:(r.cv ρ).oneCell'=true):r.one=true:=by cases r<;>first|rfl|(exact absurd h (by decide))|(simp[RV.cv,Go.undef,Value.oneCell'] at h)
def z04{n:Nat}{c:Nat→RV}{cs:Array Value}(hc:CellsAt n c ρ cs){tr:Tr}(he:c=tr.get):∀ {k off:Nat},off+k≤n→(tr.cut k off).ones=true
 |0,_,_=>rfl
 |k+1,off,h=>by rw[z05];simp only[RV.ones,yyc];exact⟨one_of (by have:=(hc.at_ off (by omega)).2;rw[he] at this;exact this),z04 hc he (by omega)⟩
def z8h(h1:SAT X M ρ s.toS w){size:Nat}{x c:RV}(h:srcR s.H size x=some (n,c)) :
  0<n∧c.len=n*size∧c.ones=true∧c.bd s.nx∧∃ adr cap,x.cv ρ=.slice (some adr) n cap∧∀ j u,(c.cl ρ)[j]?=some u→w.cell? (adr.add j)=some u:=by
 unfold srcR at h;split at h
 ·rename_i l off m he;split at h
  ·rename_i ty k nn d tr hl;cases hg:Nat.ble (off+m*size) nn&&okO s.H x&&Nat.blt 0 m
   ·rw[hg] at h;cases h
   ·rw[hg,cond_true,yya,yyn] at h;obtain⟨rfl,rfl⟩:=h;simp only[yyc,Nat.blt_eq] at hg;have g1:=yyd hg.1.1;obtain⟨e1,cap,e2⟩:=z4y h1 he hg.1.2;obtain⟨_,hb,hd⟩:=q1c h1 hl;simp only[RO.toHO,HO.ok,HO.bd] at hd hb;obtain⟨_,cs,ha,hh,hc,_⟩:=hd;refine⟨hg.2,q0v _ _ _,z04 ⟨hh,hc⟩ rfl g1,q6e fun j _ hj=>hb j (by omega),_,cap,e2,fun j u hu=>?_⟩;rw[j4,u6 ha];rw[j1q hc rfl g1,yxm] at hu;split at hu
    ·simpa[List.getElem?_drop] using hu
    ·cases hu
  ·cases h
 ·cases h
noncomputable def m_mks(P:Program)(s:RS)(t:TypeId)(l c:Operand):Option (RV×RS):=
 match evS P (underlying t) with
 |some (.slice elem)=>(match evS P (typeInfo elem) with
  |some i=>(match zR P elem with
   |some z=>(match opc s.L l with
    |some (.int _ n)=>(match opc s.L c with
     |some (.int _ m)=>bif decide (0≤n)&&decide (n≤m)&&decide (m≤100000000)&&Nat.ble i.bytes 65536&&Nat.beq z.len i.size then
       some (.o s.nx i.size 0 n.toNat false 0,nblk s elem (some i.size) (z.rep m.toNat)) else none
     |_=>none)
    |_=>none)
   |none=>none)
  |none=>none)
 |_=>none
def q3y(z:RV)(ρ:Env):∀ n,(z.rep n).len=n*z.len:=fun n=>by rw[← j7 ρ,q3j];simp[j7]
def m_mks_ok{l c:Operand}(h:m_mks X.P s t l c=some (v,s'))(h1:SAT X M ρ s.toS w)(h2:REG X M ρ s.toS a) :
  DidR X M ρ s v s' ((do pure (Next.value (← Instr.makeSlice t (a.eval l) (a.eval c))):Sem Next).run X.P w):=by
 unfold m_mks at h;split at h
 ·rename_i elem hU;split at h
  ·rename_i i hi;split at h
   ·rename_i z hz;split at h
    ·rename_i k1 n hn;split at h
     ·rename_i k2 m hm;cases hg:decide (0≤n)&&decide (n≤m)&&decide (m≤100000000)&&Nat.ble i.bytes 65536&&Nat.beq z.len i.size
      ·rw[hg] at h;cases h
      ·rw[hg,cond_true,yya,yyn] at h;obtain⟨rfl,rfl⟩:=h;simp only[yyc,yyu] at hg;obtain⟨⟨⟨⟨g1,g2⟩,g3⟩,g4⟩,g5⟩:=hg;have g4:=yyd g4;have g5:=yyg g5;obtain⟨z1,z2,zv,z3,z4,_⟩:=q9x hz ρ s.nx;have hb:IntKind.i64.wrap n=n:=IntWalk.i64_in n ⟨by omega,by omega⟩;have hd:IntKind.i64.wrap m=m:=IntWalk.i64_in m ⟨by omega,by omega⟩;have he:(i.bytes:Int)*m≤65536*100000000:=Int.mul_le_mul (by omega) g3 (by omega) (by omega);refine z0z h1 (q3k z1 _) (q20 z2 _) rfl (cap:=m.toNat) (by rw[q3y z ρ,g5]) (by omega) (by simp only[maxLen];omega) ?_;unfold Instr.makeSlice;simp only[yye,w4 hU,yyb,q5w h2 hn,q5w h2 hm,asInt,asIntOf,yyf,w4 hi,hb,hd];rw[if_neg (by simp;omega)];simp only[yyf,yye,run_askRoom,yyb,Go.sizeOf,w4 hi,Sem.run_ite,Result.andThen_ite];split
       ·rename_i h0;have ha:(z.rep m.toNat).cl ρ=[]:=yxk (by rw[j7,q3y z ρ,g5];exact h0);simp only[h0,Array.range_zero',Array.map_empty,q1k,yyb,ha]
       ·simp only[z3,yyb];rw[z74 ρ m.toNat i.size z z4 g5];simp only[q1k,yyb]
     ·cases h
    ·cases h
   ·cases h
  ·cases h
 ·cases h
def z01(h1:SAT X M ρ s.toS w)(hg:w.grownBy w' row)(hd:∀ b,row=some b→X.E.heap.size≤b∧M b=none)
  (he:∀ l o,lk (mapH H') l=some o→lk (mapH s.H) l=some o∧∀ b,o.at ρ l=some b→row≠some b) {elem:TypeId} {e m d:Nat} {tr:Tr} {v:Value} {xs:List Value} (hm:0<m)
  (hh:w'.ownsRow X.E.heap.size elem e v m xs) (hb:∀ b,v.ownBlock=some b→row=some b∨w.heap.size≤b) (hk:∀ i,i<m*e→(tr.get i).bd s.nx)
  (hy:∀ i,i<m*e→xs[i]?=some ((tr.get i).cv ρ)∧((tr.get i).cv ρ).oneCell'=true) {r:Result Next} (hr:r=.ok (.value v) w') :
  DidR X M ρ s (.o s.nx e 0 m false 0) ⟨s.L,updR H' s.nx (.blk elem (some e) (m*e) d tr),s.nx+1⟩ r:=by
 rcases hh.2 with⟨_,h0⟩|⟨g,cap,cur,hv,hE,ha,hu,hj,hA,hB⟩
 ·omega
 ·have hw:=j8 ρ s.nx g .nil v;have hC:m*e≤cap*e:=yy1 _ hu;refine⟨_,w',_,hr,hw,yy5 _,rfl,h1.newO (row:=row) (b:=g) (sv:=v) hg hd he (hb g (by rw[hv];rfl)) (fun i hi=>q0w (yy5 _) (hk i hi)) (by simp[RO.toHO,HO.at,Env.with])
   (j1x (b:=g) (by simp[Env.with]) hE ha ⟨by omega,fun i hi=>?_⟩ ?_),yy2 _,.inl ?_⟩
  ·rw[q0b hw (hk i hi)];have:=hy i hi;rw[← hB,yxm,if_pos hi,yxw] at this;exact this
  ·simp only[capOk];exact⟨m,cap,by simp[Env.with,hv],rfl,hA,hu,hj⟩
  ·simp only[RV.cv,Env.with,if_true,hv,Value.capN];simp
def apT(P:Program)(t:TypeId):Option (TypeId×TypeInfo×RV):=
 match evS P (underlying t) with
 |some (.slice elem)=>(match P.info? elem with
  |some i=>(match zR P elem with
   |some z=>bif Nat.beq z.len i.size&&Nat.blt 0 i.size&&Nat.ble i.bytes 65536 then some (elem,i,z) else none
   |none=>none)
  |none=>none)
 |_=>none
structure ApT(P:Program)(t elem:TypeId)(i:TypeInfo)(z:RV):Prop where
 und:P.underlying t=some (.slice elem)
 info:P.info? elem=some i
 zlen:z.len=i.size
 pos:0<i.size
 bytes:i.bytes≤65536
 zero:∃ zv,(∀ w,(zeroValue elem).run P w=.ok zv w)∧i.zero=some zv∧∀ ρ,zv.cells=(z.cl ρ).toArray
 ones:z.ones=true
 bd:∀ n,z.bd n
def z78{d:TypeDesc}(h:evS P (underlying t)=some d):P.underlying t=some d:=by
 have:=w4 h default;simp only[underlying,yye,run_program,yyb] at this;split at this
 ·rename_i hd;simp only[yyf,Result.ok.injEq,and_true] at this;rw[hd,this]
 ·simp[stuck,Sem.run] at this
def apT_ok(h:apT P t=some (elem,i,z)):ApT P t elem i z:=by
 unfold apT at h;split at h
 ·rename_i el hU;split at h
  ·rename_i i' hi;split at h
   ·rename_i z' hz;cases hg:Nat.beq z'.len i'.size&&Nat.blt 0 i'.size&&Nat.ble i'.bytes 65536
    ·rw[hg] at h;cases h
    ·rw[hg,cond_true,yya,yyn,yyn] at h;obtain⟨rfl,rfl,rfl⟩:=h;simp only[yyc,Nat.blt_eq] at hg
     let ρ0:Env:=⟨fun _=>0,fun _=>.nil,fun _=>Go.undef⟩
     refine⟨z78 hU,hi,yyg hg.1.1,hg.1.2,yyd hg.2,?_,(q9x hz ρ0 0).2.1,fun n=>(q9x hz ρ0 n).1⟩;obtain⟨_,_,zv,e1,e2,e3⟩:=q9x hz ρ0 0;refine⟨zv,e1,e3 _ hi,fun ρ=>?_⟩;obtain⟨_,_,zv',e1',e2',_⟩:=q9x hz ρ 0;have:=(e1 default).symm.trans (e1' default);injection this with this
     rw[this];exact e2'
   ·cases h
  ·cases h
 ·cases h
noncomputable def m_app1(s:RS)(elem:TypeId)(e:Nat)(base:RV)(n:Nat)(c:RV):Option (RV×RS):=
 match base with
 |.ns=>bif Nat.ble n 100000000 then some (.o s.nx e 0 n false 0,⟨s.L,updR s.H s.nx (.blk elem (some e) (n*e) (dep (n*e)) (Tr.put (dep (n*e)) c (.lf .u) 0)),s.nx+1⟩) else none
 |.o l e' lo hi full z=>bif Nat.beq e e'&&okO s.H base&&Nat.beq z 0 then
   (match hq s.H l with
   |some (.blk ty _ nn _ tr)=>bif full then
      bif Nat.ble (hi-lo+n) 100000000&&Nat.ble lo hi&&Nat.blt lo hi then
       some (.o s.nx e 0 (hi-lo+n) false 0,⟨s.L,updR s.H s.nx (.blk elem (some e) ((hi-lo+n)*e) (dep ((hi-lo+n)*e)) (Tr.put (dep ((hi-lo+n)*e)) ((tr.cut ((hi-lo)*e) (lo*e)).app c) (.lf .u) 0)),s.nx+1⟩)
      else none
     else
      bif Nat.beq lo 0&&Nat.beq (hi*e) nn&&Nat.beq ty elem&&Nat.ble (hi+n) 100000000 then
       some (.o s.nx e 0 (hi+n) false 0,⟨s.L,updR (delR s.H l) s.nx (.blk elem (some e) ((hi+n)*e) (dep ((hi+n)*e)) (Tr.put (dep ((hi+n)*e)) c tr (hi*e))),s.nx+1⟩)
      else bif Nat.ble (hi*e+n*e) nn&&Nat.ble lo hi then
       (match hq s.H l with
       |some (.blk ty k nn d tr)=>bif Nat.ble nn (2 ^ d) then some (.o l e lo (hi+n) false 0,⟨s.L,updR s.H l (.blk ty k nn d (Tr.put d c tr (hi*e))),s.nx⟩) else none
       |_=>none)
      else none
   |_=>none)
  else none
 |_=>none
def q7m{k e:Nat}{olds:List Value}{N:Nat}(ha:olds.length=k)(hc:CellsAt k tr.get ρ olds.toArray)(ho:c.ones=true)(hN:k+c.len=N)(hd:N≤2 ^ d) :
  ∀ i,i<N→(olds++c.cl ρ)[i]?=some (((Tr.put d c tr k).get i).cv ρ)∧(((Tr.put d c tr k).get i).cv ρ).oneCell'=true:=fun i hi=>by
 rw[s5 (by omega) (by omega)];by_cases h1:i<k
 ·rw[if_neg (by omega),List.getElem?_append_left (by omega)];have:=hc.at_ i h1;rw[yxp] at this;exact this
 ·rw[if_pos ⟨by omega,by omega⟩,List.getElem?_append_right (by omega),ha];exact⟨q07 ρ (by omega),q3l (q21 ho (by omega)) ρ⟩
def z97{z base c v:RV}{adr:Addr}(hT:ApT X.P t elem i z)(h:m_app1 s elem i.size base n c=some (v,s'))(h1:SAT X M ρ s.toS w)(hB:base.bd s.nx)
  (hn:0<n) (hA:c.len=n*i.size) (ho:c.ones=true) (hK:c.bd s.nx) (ha:∀ j u,(c.cl ρ)[j]?=some u→w.cell? (adr.add j)=some u) :
  DidR X M ρ s v s' ((do pure (Next.value (← Builtin.append_ #[t,t] ty #[base.cv ρ,.slice (some adr) n cap])):Sem Next).run X.P w):=by
 obtain⟨zv,_,h5,Hf⟩:=hT.zero;have h6:zv.cells.size=i.size:=by rw[Hf ρ];simp[j7,hT.zlen]
 have hM:∀ u∈c.cl ρ,u.oneCell'=true:=q65 ho ρ;have hv:(c.cl ρ).length=n*i.size:=by rw[j7,hA]
 have h7:=h1.below.size;have own:∀ {v0:Value} {k:Nat} {xs:List Value},w.ownsRow X.E.heap.size elem i.size v0 k xs→k+n≤100000000→∃ v' w',(Builtin.append_ #[t,t] ty #[v0,.slice (some adr) n cap]).run X.P w=.ok v' w' ∧
   w'.ownsRow X.E.heap.size elem i.size v' (k+n) (xs++c.cl ρ)∧w.grownBy w' v0.ownBlock∧(v'.ownBlock=v0.ownBlock∨v'.ownBlock=some w.heap.size):=fun {v0 k xs} ho hk=>by
  have Hh:(k+n)*i.bytes≤100000000*65536:=Nat.mul_le_mul hk hT.bytes;obtain⟨v',w',r1,r2,r3,_,r5⟩:=run_append_own_at (P:=X.P) w X.E.heap.size t ty elem i zv i.size i.bytes hT.und hT.info h5 rfl rfl h6 hT.pos v0 k xs ho adr n cap (c.cl ρ) hv ha hM (by simp only[maxLen];omega) (by omega) h7;exact⟨v',w',r1,r2,r3,r5⟩
 unfold m_app1 at h;split at h
 ·cases hg:Nat.ble n 100000000
  ·rw[hg] at h;cases h
  ·rw[hg,cond_true,yya,yyn] at h;obtain⟨rfl,rfl⟩:=h;have hg:=yyd hg;obtain⟨v',w',r1,r2,r3,r4⟩:=own (World.ownsRow_nil w X.E.heap.size elem i.size) (by omega);rw[yxt,List.nil_append] at r2;have he:=q7m (ρ:=ρ) (k:=0) (e:=i.size) (tr:=.lf .u) (d:=dep (n*i.size)) (olds:=[]) (N:=n*i.size) rfl ⟨yyw _,fun i hi=>by omega⟩ ho (by omega) (q3g _);refine z01 (row:=none) h1 r3 (fun b hb=>by cases hb) (fun l o hl=>⟨hl,fun _ _=>by simp⟩) hn r2 (fun b hb=>?_) (fun j hj=>?_) he ?_
   ·rcases r4 with r4|r4
    ·rw[hb] at r4;simp[Value.ownBlock] at r4
    ·rw[hb] at r4;injection r4 with r4;exact .inr (by omega)
   ·have hd:=q3g (n*i.size);rw[s5 (by omega) (by omega),if_pos (by omega)];exact t8 hK
   ·exact p9 r1
 ·rename_i l e' lo hi full zz;cases hL:Nat.beq i.size e'&&okO s.H (.o l e' lo hi full zz)&&Nat.beq zz 0
  ·rw[hL] at h;cases h
  ·rw[hL,cond_true] at h;simp only[yyc] at hL;obtain⟨⟨g1,g2⟩,g3⟩:=hL;have g1:=yyg g1;have g3:=yyg g3;subst g1 g3;have hC:=z0g h1 g2;split at h
   ·rename_i bty k nn d tr hl;obtain⟨Hp,hN,h9⟩:=q1c h1 hl;simp only[RO.toHO,HO.ok,HO.bd] at h9 hN;obtain⟨hE,cs,hw,Hi,hP,hk⟩:=h9;have g2':=g2;simp only[okO,hl] at g2';cases k with
    |none=>simp at g2'
    |some e2=>
     simp only[yyc,Nat.beq_eq,Nat.blt_eq] at g2';obtain⟨⟨ge,gle⟩,gpos⟩:=g2';subst ge;have gle:=yyd gle;obtain⟨m0,cap0,Hj,Ha,hQ,Hk,Hl⟩:=hk;have hh:(ρ.sv l).capN=cap0:=by rw[Hj];rfl
     have Hq:hi≤m0:=by rw[Ha] at gle;exact Nat.le_of_mul_le_mul_right gle gpos
     have Hb:m0*i.size≤cap0*i.size:=yy1 _ Hk;cases full with
     |true=>
      simp only[cond_true] at h;cases hg:Nat.ble (hi-lo+n) 100000000&&Nat.ble lo hi&&Nat.blt lo hi
      ·rw[hg] at h;cases h
      ·rw[hg,cond_true,yya,yyn] at h;obtain⟨rfl,rfl⟩:=h;simp only[yyc,Nat.blt_eq] at hg;have k1:=yyd hg.1.1;have k3:=hg.2;have Hm:lo*i.size+(hi-lo)*i.size=hi*i.size:=by rw[← yy8];congr 1;omega
       have hR:=j1q (ρ:=ρ) (c:=tr.get) (cs:=cs) (n:=nn) hP rfl (k:=(hi-lo)*i.size) (off:=lo*i.size) (by omega);have hy:=z04 (ρ:=ρ) (c:=tr.get) (cs:=cs) (n:=nn) ⟨Hi,hP⟩ rfl (k:=(hi-lo)*i.size) (off:=lo*i.size) (by omega);have hU:(tr.cut ((hi-lo)*i.size) (lo*i.size)).bd s.nx:=q6e fun j _ hj=>hN j (by omega);have Hh:(hi-lo+n)*i.bytes≤100000000*65536:=Nat.mul_le_mul k1 hT.bytes;have hr:=run_append_grow (P:=X.P) w t ty elem i zv hT.und hT.info h5 ⟨ρ.blk l,lo*i.size,none⟩ (hi-lo) (hi-lo) ((tr.cut ((hi-lo)*i.size) (lo*i.size)).cl ρ) (by rw[j7,q0v]) (fun j u hu=>?_) adr n cap (c.cl ρ) hv ha (by omega) (by omega) (growslice_fits (by omega) (by omega))
       ·have hW:(RV.o l i.size lo hi true 0).cv ρ=.slice (some ⟨ρ.blk l,lo*i.size,none⟩) (hi-lo) (hi-lo):=by simp only[RV.cv,if_true];rw[if_neg (by omega)]
        rw[hW];have hge:=grownCap_ge w (hi-lo+n) (hi-lo) elem;have hY:=grownCap_le_maxLen w (hi-lo+n) (hi-lo) elem (by simp only[maxLen];omega);have hall:((tr.cut ((hi-lo)*i.size) (lo*i.size)).app c).cl ρ=(tr.cut ((hi-lo)*i.size) (lo*i.size)).cl ρ++c.cl ρ:=q2k _ _ _;have hD:((tr.cut ((hi-lo)*i.size) (lo*i.size)).app c).len=(hi-lo+n)*i.size:=by rw[← j7 ρ,hall,yyz,j7,q0v,hv,yy8]
        have hF:=q49 ho hy;have he:=q7m (ρ:=ρ) (k:=0) (e:=i.size) (c:=(tr.cut ((hi-lo)*i.size) (lo*i.size)).app c) (tr:=.lf .u) (d:=dep ((hi-lo+n)*i.size)) (olds:=[]) (N:=(hi-lo+n)*i.size) rfl ⟨yyw _,fun i hi=>by omega⟩ hF (by omega) (q3g _);have Hc:((tr.cut ((hi-lo)*i.size) (lo*i.size)).cl ρ++c.cl ρ).length=(hi-lo+n)*i.size:=by rw[← hall,j7,hD]
        refine z01 (row:=none) (xs:=(tr.cut ((hi-lo)*i.size) (lo*i.size)).cl ρ++c.cl ρ) h1 (w':=w.drew.alloc (Obj.cells ((RV.cl ρ (tr.cut ((hi-lo)*i.size) (lo*i.size))).toArray++(RV.cl ρ c).toArray++Builtin.zeroCells zv.cells (grownCap w (hi-lo+n) (hi-lo) elem-(hi-lo+n))) elem)) ⟨rfl,rfl,rfl,by simp,fun k hk _=>heap_alloc_old w.drew _ hk⟩ (fun b hb=>by cases hb) (fun l o hl=>⟨hl,fun _ _=>by simp⟩) (by omega)
         ⟨Hc,.inr ⟨w.heap.size,_,_,rfl,h7,heap_alloc_new w.drew _,hge,hY,?_,?_⟩⟩ (fun b hb=>?_) (fun j hj=>?_) (by rw[← hall];simpa using he) (p9 hr)
        ·simp only[Array.size_append,List.size_toArray,size_zeroCells,h6,j7,q0v,hA,← yy8];congr 1;omega
        ·simp only[Array.toList_append,yxl];rw[← yxl,← Hc];exact List.take_left
        ·simp only[Value.ownBlock,yya] at hb;exact .inr (Nat.le_of_eq hb)
        ·have hd:=q3g ((hi-lo+n)*i.size);rw[s5 (by omega) (by omega),if_pos (by omega)];exact t8 (q1t hK hU)
       ·rw[j4,u6 hw];rw[hR,yxm] at hu;split at hu
        ·simpa[List.getElem?_drop] using hu
        ·cases hu
     |false=>
      simp only[cond_false] at h;have hG:∀ {q:Nat},(RV.o l i.size 0 q false 0).cv ρ=.slice (some ⟨ρ.blk l,0,none⟩) q cap0:=fun {q}=>by simp[RV.cv,hh]
      cases hg:Nat.beq lo 0&&Nat.beq (hi*i.size) nn&&Nat.beq bty elem&&Nat.ble (hi+n) 100000000
      ·rw[hg,cond_false] at h;cases hH:Nat.ble (hi*i.size+n*i.size) nn&&Nat.ble lo hi
       ·rw[hH] at h;cases h
       ·rw[hH,cond_true] at h
        try simp only[hl] at h
        cases hZ:Nat.ble nn (2 ^ d)
        ·rw[hZ] at h;cases h
        ·rw[hZ,cond_true,yya,yyn] at h;obtain⟨rfl,rfl⟩:=h;simp only[yyc] at hH;have q1:=yyd hH.1;have q2:=yyd hH.2;have q3:=yyd hZ;obtain⟨w',e1,e2⟩:=z00 h1 hl hK ho (by rw[hA];exact q1) q3;have Hd:hi+n≤m0:=by rw[← yy8,Ha] at q1;exact Nat.le_of_mul_le_mul_right q1 gpos
         refine⟨ρ,w',.value _,?_,Env.upTo.refl _ _,yyl _,rfl,e2,hB,.inl rfl⟩;have hW:(RV.o l i.size lo hi false 0).cv ρ=.slice (some ⟨ρ.blk l,if cap0=lo then 0 else lo*i.size,none⟩) (hi-lo) (cap0-lo):=by simp only[RV.cv,hh,yys,if_false]
         have h0:(RV.o l i.size lo (hi+n) false 0).cv ρ=.slice (some ⟨ρ.blk l,if cap0=lo then 0 else lo*i.size,none⟩) (hi-lo+n) (cap0-lo):=by simp only[RV.cv,hh,yys,if_false];congr 1;omega
         rw[hW,h0,if_neg (show ¬ cap0=lo by omega)];refine p9 ?_;have Hn:(Builtin.firstCells i.size n (.slice (some adr) n cap)).run X.P w=.ok (c.cl ρ).toArray w:=run_firstCells_some w i.size n adr n cap (c.cl ρ) hv ha;have h2:lo*i.size+(hi-lo)*i.size=hi*i.size:=by rw[← yy8];congr 1;omega
         simp[Builtin.append_,run_underlying hT.und,Go.sizeOf,typeInfo,hT.info,Builtin.lenOf,show hi-lo+n≤cap0-lo by omega,Hn,j4,h2,e1]
      ·rw[hg,cond_true,yya,yyn] at h;obtain⟨rfl,rfl⟩:=h;simp only[yyc] at hg;obtain⟨⟨⟨q1,q2⟩,q3⟩,q4⟩:=hg;have q1:=yyg q1;have q2:=yyg q2;have q3:=yyg q3;have q4:=yyd q4;subst q1 q3;have h3:w.ownsRow X.E.heap.size bty i.size ((RV.o l i.size 0 hi false 0).cv ρ) hi (cs.toList.take (hi*i.size)):=⟨by simp;omega,.inr ⟨ρ.blk l,cap0,cs,hG,hE,hw,by omega,Hl,hQ,rfl⟩⟩
       obtain⟨v',w',r1,r2,r3,r4⟩:=own h3 q4;have hJ:(RO.blk bty (some i.size) nn d tr).toHO.at ρ l=some (ρ.blk l):=rfl;have Ho:((RV.o l i.size 0 hi false 0).cv ρ).ownBlock=some (ρ.blk l):=by rw[hG];rfl
       rw[Ho] at r3 r4;have He:lk (mapH s.H) l=some (RO.blk bty (some i.size) nn d tr).toHO:=lkH hl;have he:=q7m (ρ:=ρ) (k:=hi*i.size) (e:=i.size) (tr:=tr) (d:=dep ((hi+n)*i.size)) (olds:=cs.toList.take (hi*i.size)) (N:=(hi+n)*i.size) (by simp;omega)
        ⟨by simp;omega,fun j hj=>by rw[yxp,yxm,if_pos hj,yxw];exact hP j (by omega)⟩ ho (by rw[hA,yy8]) (q3g _)
       refine z01 (row:=some (ρ.blk l)) h1 r3 (fun b hb=>h1.row He b (by rw[hJ];exact hb)) (fun m o hm=>?_) (by omega) r2 (fun b hb=>?_) (fun j hj=>?_) he (p9 r1)
       ·obtain⟨h4,hm⟩:=j1o hm;exact⟨hm,fun b hb hr=>h4 (h1.apart l m _ o b He hm (by rw[hJ];exact hr) hb)⟩
       ·rcases r4 with r4|r4
        ·exact .inl (by rw[← r4];exact hb)
        ·rw[hb] at r4;injection r4 with r4;exact .inr (by omega)
       ·have hd:=q3g ((hi+n)*i.size);rw[s5 (by rw[hA,← yy8];exact hd) (by omega)];split
        ·exact t8 hK
        ·rename_i h4;exact hN j (by rw[hA,← yy8] at h4;omega)
   ·cases h
 ·cases h
def slOk(H:Hg):RV→Bool
 |.ns=>true
 |.s _ _ n c=>Nat.ble n c
 |.o l e lo hi f z=>okO H (.o l e lo hi f z)
 |_=>false
def slOk_ok(h1:SAT X M ρ s.toS w){x:RV}(h:slOk s.H x=true):∃ ad n c,x.cv ρ=.slice ad n c∧n≤c:=by
 cases x<;>simp only[slOk,yys] at h
 case ns=>exact⟨_,_,_,rfl,yyl _⟩
 case s l off n c=>exact⟨_,_,_,rfl,yyd h⟩
 case o l e lo hi f z=>have:=z0g h1 h;exact⟨_,_,_,rfl,by omega⟩
def run_app0{t t' elem e' ty:TypeId}(hU:P.underlying t=some (.slice elem))(hi:P.info? elem=some i)(ha:P.underlying t'=some (.slice e')){ad ad':Option Addr}{n c c':Nat}(hn:n≤c) :
  (Builtin.append_ #[t,t'] ty #[.slice ad n c,.slice ad' 0 c']).run P w=.ok (.slice ad n c) w:=by
 have h0:(Builtin.firstCells i.size 0 (.slice ad' 0 c')).run P w=.ok #[] w:=by
  cases ad' with
  |none=>rfl
  |some q=>simp[Builtin.firstCells,loadCells,loadCellsFrom]
 cases ad<;>simp[Builtin.append_,run_underlying hU,run_underlying ha,Go.sizeOf,typeInfo,hi,Builtin.lenOf,hn,h0,storeCells]
def j17{kk k2:IntKind}{n:Int}(hT:ApT X.P t elem i z)(hv:X.P.underlying t'=some (.int k2))(h0:0<n)(hn:n≤100000000)(h1:SAT X M ρ s.toS w) :
  DidR X M ρ s (.o s.nx i.size 0 n.toNat false 0) ⟨s.L,updR s.H s.nx (.blk elem (some i.size) (n.toNat*i.size) (dep (n.toNat*i.size)) (Tr.put (dep (n.toNat*i.size)) (z.rep n.toNat) (.lf .u) 0)),s.nx+1⟩
   ((do pure (Next.value (← Builtin.append_ #[t,t'] ty #[.slice none 0 0,.int kk n])):Sem Next).run X.P w):=by
 obtain⟨zv,hL,hw,hg⟩:=hT.zero;have hy:zv.cells.size=i.size:=by rw[hg ρ];simp[j7,hT.zlen]
 generalize hm:n.toNat=m;have hh:0<m:=by omega
 have hA:m≤100000000:=by omega
 have hM:m*i.bytes≤100000000*65536:=Nat.mul_le_mul hA hT.bytes;have hge:=grownCap_ge w m 0 elem;have ha:=grownCap_le_maxLen w m 0 elem (by simp only[maxLen];omega);have hB:IntKind.i64.wrap n=n:=IntWalk.i64_in n ⟨by omega,by omega⟩;have hC:Builtin.nextslicecap m 0*i.bytes≤281474976710656:=growslice_fits (by omega) (by omega);have hD:m*i.size≠0:=by have:=Nat.mul_pos hh hT.pos;omega
 have hE:(z.rep m).len=m*i.size:=by rw[q3y z ρ,hT.zlen]
 have hF:(Builtin.zeroCells zv.cells m).toList=(z.rep m).cl ρ:=by rw[q3j];have:=q2a m (z.cl ρ);rw[j7] at this;rw[hg ρ];simp only[Builtin.zeroCells,List.size_toArray,j7];simpa[j7] using this
 have hr:(Builtin.append_ #[t,t'] ty #[.slice none 0 0,.int kk n]).run X.P w=.ok (.slice (some ⟨w.heap.size,0,none⟩) m (grownCap w m 0 elem))
   (w.drew.alloc (.cells (Builtin.zeroCells zv.cells m++Builtin.zeroCells zv.cells (grownCap w m 0 elem-m)) elem)):=by
  have hG:¬ (9223372036854775807<(m:Int)):=by omega
  have hH:¬ (281474976710656<Builtin.nextslicecap m 0*i.bytes):=by omega
  have hJ:¬ (281474976710656<n*(i.bytes:Int)):=by have:n*(i.bytes:Int)≤100000000*65536:=Int.mul_le_mul hn (by have:=hT.bytes;omega) (by omega) (by omega);omega
  have hK:¬ n<0:=by omega
  simp[Builtin.append_,run_underlying hT.und,run_underlying hv,Go.sizeOf,typeInfo,zeroValue,hT.info,hw,asInt,asIntOf,hB,hK,hJ,hm,show ¬ m=0 by omega,hG,hH,hD,Builtin.firstCells,newRow,grownCap,Question.forced,show ¬ i.size=0 by have:=hT.pos;omega];rw[if_neg (by omega),if_neg (by omega)]
 have he:=q7m (ρ:=ρ) (k:=0) (e:=i.size) (c:=z.rep m) (tr:=.lf .u) (d:=dep (m*i.size)) (olds:=[]) (N:=m*i.size) rfl ⟨yyw _,fun i hi=>by omega⟩ (q20 hT.ones m) (by omega) (q3g _);have hu:((z.rep m).cl ρ).length=m*i.size:=by rw[j7,hE]
 refine z01 (row:=none) (xs:=(z.rep m).cl ρ) h1 (w':=w.drew.alloc (.cells (Builtin.zeroCells zv.cells m++Builtin.zeroCells zv.cells (grownCap w m 0 elem-m)) elem)) ⟨rfl,rfl,rfl,by simp,fun k hk _=>heap_alloc_old w.drew _ hk⟩
  (fun b hb=>by cases hb) (fun l o hl=>⟨hl,fun _ _=>by simp⟩) hh ⟨hu,.inr ⟨w.heap.size,_,_,rfl,h1.below.size,heap_alloc_new w.drew _,hge,ha,?_,?_⟩⟩ (fun b hb=>?_) (fun j hj=>?_) (by simpa using he) (p9 hr)
 ·simp only[Array.size_append,size_zeroCells,hy,← yy8];congr 1;omega
 ·rw[Array.toList_append,hF,← hu];exact List.take_left
 ·simp only[Value.ownBlock,yya] at hb;exact .inr (Nat.le_of_eq hb)
 ·have hd:=q3g (m*i.size);rw[s5 (by omega) (by omega),if_pos (by omega)];exact t8 (q3k (hT.bd _) m)
noncomputable def m_app(P:Program)(s:RS)(args:List Operand)(tys:List TypeId):Option (RV×RS):=
 match args with
 |[b,x]=>(match tys with
  |[t,t']=>(match apT P t with
   |some (elem,i,z)=>(match opv s.L b with
    |some base=>(match opv s.L x with
     |some y=>(match evS P (underlying t') with
      |some (.slice _)=>(match srcR s.H i.size y with
       |some (n,c)=>bif Nat.beq t t' then m_app1 s elem i.size base n c else none
       |none=>(match slN y with
        |some 0=>bif slOk s.H base then some (base,s) else none
        |_=>none))
      |some (.int _)=>(match base with
       |.ns=>(match y with
        |.i _ n=>bif decide (0<n)&&decide (n≤100000000) then
          some (.o s.nx i.size 0 n.toNat false 0,⟨s.L,updR s.H s.nx (.blk elem (some i.size) (n.toNat*i.size) (dep (n.toNat*i.size)) (Tr.put (dep (n.toNat*i.size)) (z.rep n.toNat) (.lf .u) 0)),s.nx+1⟩) else none
        |_=>none)
       |_=>none)
      |_=>none)
     |none=>none)
    |none=>none)
   |none=>none)
  |_=>none)
 |_=>none
def toNx(q:Sem Value):Sem Next:=do pure (Next.value (← q))
def m_app_ok{args:Array Operand}{tys:Array TypeId}(h:m_app X.P s args.toList tys.toList=some (v,s'))(h1:SAT X M ρ s.toS w)(h2:REG X M ρ s.toS a) :
  DidR X M ρ s v s' ((toNx (Builtin.append_ tys ty (args.map a.eval))).run X.P w):=by
 have ha:(args.map a.eval)=(args.toList.map a.eval).toArray:=by rw[← yxc]
 unfold m_app at h;split at h
 ·rename_i b x hh;split at h
  ·rename_i t t' hj;have ht:tys=#[t,t']:=by rw[← Array.toArray_toList (xs:=tys),hj]
   rw[ha,hh,ht];simp only[yy0,List.map_nil];split at h
   ·rename_i elem i z hA;have hT:=apT_ok hA;split at h
    ·rename_i base hb;split at h
     ·rename_i y hy;have eb:=k8 h2 hb;have ey:=k8 h2 hy;rw[eb.2,ey.2];split at h
      ·rename_i e' hd;split at h
       ·rename_i n c he;cases hg:Nat.beq t t'
        ·rw[hg] at h;cases h
        ·rw[hg,cond_true] at h;have hg:=yyg hg;subst hg;obtain⟨k1,k2,k3,k4,adr,cap,k5,k6⟩:=z8h h1 he;rw[k5];exact z97 hT h h1 eb.1 k1 k2 k3 k4 k6
       ·split at h
        ·rename_i hn;cases hg:slOk s.H base
         ·rw[hg] at h;cases h
         ·rw[hg,cond_true,yya,yyn] at h;obtain⟨rfl,rfl⟩:=h;obtain⟨ad,c',e1⟩:=z1n hn ρ;obtain⟨ad2,n2,c2,e2,e3⟩:=slOk_ok h1 hg;refine⟨ρ,w,.value _,?_,Env.upTo.refl _ _,yyl _,rfl,h1,eb.1,.inl rfl⟩;refine p9 ?_;rw[e1,e2];exact run_app0 hT.und hT.info (z78 hd) e3
        ·cases h
      ·rename_i k2 hd;split at h
       ·split at h
        ·rename_i kk n;cases hg:decide (0<n)&&decide (n≤100000000)
         ·rw[hg] at h;cases h
         ·rw[hg,cond_true,yya,yyn] at h;obtain⟨rfl,rfl⟩:=h;simp only[yyc,yyu] at hg;exact j17 hT (z78 hd) hg.1 hg.2 h1
        ·cases h
       ·cases h
      ·cases h
     ·cases h
    ·cases h
   ·cases h
  ·cases h
 ·cases h
noncomputable def m_copy(P:Program)(s:RS)(args:List Operand)(tys:List TypeId):Option (RV×RS):=
 match args with
 |[b,x]=>(match tys with
  |[t,_]=>(match evS P (underlying t) with
   |some (.slice elem)=>(match evS P (Go.sizeOf elem) with
    |some size=>(match opv s.L b with
     |some dv=>(match opv s.L x with
      |some y=>(match slN dv with
       |some nd=>(match slN y with
        |some ny=>(match Nat.min ny nd with
         |0=>some (.i .i64 0,s)
         |k+1=>(match slB dv with
          |some (l,off,_)=>(match srcR s.H size y with
           |some (n,c)=>(match hq s.H l with
            |some (.blk ty kk nn d tr)=>bif Nat.beq n ny&&okO s.H dv&&Nat.ble (off+(k+1)*size) nn&&Nat.ble nn (2 ^ d)&&Nat.ble ((k+1)*size) c.len then
              some (.i .i64 (k+1:Nat),⟨s.L,updR s.H l (.blk ty kk nn d (Tr.put d (c.tk ((k+1)*size)) tr off)),s.nx⟩) else none
            |_=>none)
           |none=>none)
          |none=>none))
        |none=>none)
       |none=>none)
      |none=>none)
     |none=>none)
    |none=>none)
   |_=>none)
  |_=>none)
 |_=>none
def j2g(r:RV)(ρ:Env)(k:Nat):(r.tk k).len=min k r.len:=by rw[← j7 ρ,q6f,yxr,j7]
def q9v:∀ {r:RV} {k:Nat},r.ones=true→(r.tk k).ones=true
 |.cons a r,k+1,h=>by simp only[RV.ones,yyc] at h;simp only[RV.tk,RV.ones,yyc];exact⟨h.1,q9v h.2⟩
 |.cons a r,0,h=>rfl
 |.i ..,k,_|.b _,k,_|.np,k,_|.ns,k,_|.fz,k,_|.nm,k,_|.u,k,_|.nil,k,_|.p ..,k,_|.s ..,k,_|.m _,k,_|.it _,k,_|.y _,k,_|.o ..,k,_|.f ..,k,_|.g _,k,_|.t _,k,_=>by cases k<;>rfl
def z94{args:Array Operand}{tys:Array TypeId}(h:m_copy X.P s args.toList tys.toList=some (v,s'))(h1:SAT X M ρ s.toS w)(h2:REG X M ρ s.toS a) :
  DidR X M ρ s v s' ((toNx (Builtin.copy_ tys ty (args.map a.eval))).run X.P w):=by
 have ha:(args.map a.eval)=(args.toList.map a.eval).toArray:=by rw[← yxc]
 unfold m_copy at h;split at h
 ·rename_i b x hj;split at h
  ·rename_i t t' hv;have ht:tys=#[t,t']:=by rw[← Array.toArray_toList (xs:=tys),hv]
   rw[ha,hj,ht];simp only[yy0,List.map_nil];split at h
   ·rename_i elem hU;split at h
    ·rename_i size he;split at h
     ·rename_i dv hw;split at h
      ·rename_i y hy;have ed:=k8 h2 hw;have ey:=k8 h2 hy;rw[ed.2,ey.2];split at h
       ·rename_i nd hA;split at h
        ·rename_i ny hB;obtain⟨ad,cd,e1⟩:=z1n hA ρ;obtain⟨ay,cy,e2⟩:=z1n hB ρ;split at h
         ·rename_i hk;simp only[yya,yyn] at h;obtain⟨rfl,rfl⟩:=h;refine⟨ρ,w,.value _,?_,Env.upTo.refl _ _,yyl _,rfl,h1,trivial,.inl rfl⟩;refine p9 ?_;rw[e1,e2];have h0:(Builtin.firstCells size 0 (.slice ay ny cy)).run X.P w=.ok #[] w:=by
           cases ay with
           |none=>rfl
           |some q=>simp[Builtin.firstCells,loadCells,loadCellsFrom]
          cases ad<;>simp[Builtin.copy_,w4 hU,Builtin.lenOf,hk,w4 he,h0,storeCells,goInt,RV.cv]
         ·rename_i k hk;split at h
          ·rename_i l off nd2 hC;split at h
           ·rename_i n c hb;split at h
            ·rename_i bty kk nn d tr hl;cases hg:Nat.beq n ny&&okO s.H dv&&Nat.ble (off+(k+1)*size) nn&&Nat.ble nn (2 ^ d)&&Nat.ble ((k+1)*size) c.len
             ·rw[hg] at h;cases h
             ·rw[hg,cond_true,yya,yyn] at h;obtain⟨rfl,rfl⟩:=h;simp only[yyc] at hg;obtain⟨⟨⟨⟨g1,g2⟩,g3⟩,g4⟩,g5⟩:=hg;have g1:=yyg g1;have g3:=yyd g3;have g4:=yyd g4;have g5:=yyd g5;subst g1;obtain⟨_,k2,k3,k4,adr,cap,k5,k6⟩:=z8h h1 hb;obtain⟨_,cd',e3⟩:=z4y h1 hC g2;have hh:(c.tk ((k+1)*size)).len=(k+1)*size:=by rw[j2g c ρ];omega
              obtain⟨w',p1,p2⟩:=z00 h1 hl (q7y k4) (q9v k3) (by rw[hh];exact g3) g4;refine⟨ρ,w',.value _,?_,Env.upTo.refl _ _,yyl _,rfl,p2,trivial,.inl rfl⟩;refine p9 ?_;have hD:=run_firstCells_some (P:=X.P) w size (k+1) adr n cap ((c.tk ((k+1)*size)).cl ρ) (by rw[j7,hh]) (fun j u hu=>by
               rw[q6f,yxm] at hu;split at hu
               ·exact k6 j u hu
               ·cases hu)
              have hd:nd2=nd:=by rw[e1] at e3;injection e3 with _ e _;exact e.symm
              rw[e3,k5,hd];simp[Builtin.copy_,w4 hU,Builtin.lenOf,hk,w4 he,hD,p1,goInt,RV.cv]
            ·cases h
           ·cases h
          ·cases h
        ·cases h
       ·cases h
      ·cases h
     ·cases h
    ·cases h
   ·cases h
  ·cases h
 ·cases h
noncomputable def m_clr(P:Program)(s:RS)(args:List Operand)(tys:List TypeId):Option (RV×RS):=
 match args with
 |[b]=>(match tys with
  |[t]=>(match evS P (underlying t) with
   |some (.slice elem)=>(match zR P elem with
    |some z=>(match opv s.L b with
     |some dv=>(match slN dv with
      |some 0=>some (.t .nil,s)
      |some (n+1)=>(match slB dv with
       |some (l,off,_)=>(match hq s.H l with
        |some (.blk ty kk nn d tr)=>bif okO s.H dv&&Nat.ble (off+(n+1)*z.len) nn&&Nat.ble nn (2 ^ d) then some (.t .nil,⟨s.L,updR s.H l (.blk ty kk nn d (Tr.put d (z.rep (n+1)) tr off)),s.nx⟩) else none
        |_=>none)
       |none=>none)
      |none=>none)
     |none=>none)
    |none=>none)
   |_=>none)
  |_=>none)
 |_=>none
def m_clr_ok{args:Array Operand}{tys:Array TypeId}(h:m_clr X.P s args.toList tys.toList=some (v,s'))(h1:SAT X M ρ s.toS w)(h2:REG X M ρ s.toS a) :
  DidR X M ρ s v s' ((toNx (Builtin.clear_ tys ty (args.map a.eval))).run X.P w):=by
 have ha:(args.map a.eval)=(args.toList.map a.eval).toArray:=by rw[← yxc]
 unfold m_clr at h;split at h
 ·rename_i b hb;split at h
  ·rename_i t hd;have ht:tys=#[t]:=by rw[← Array.toArray_toList (xs:=tys),hd]
   rw[ha,hb,ht];simp only[yy0,List.map_nil];split at h
   ·rename_i elem hU;split at h
    ·rename_i z hz;obtain⟨z1,z2,zv,z3,z4,_⟩:=q9x hz ρ s.nx;split at h
     ·rename_i dv he;have ed:=k8 h2 he;rw[ed.2];split at h
      ·rename_i hn;simp only[yya,yyn] at h;obtain⟨rfl,rfl⟩:=h;obtain⟨ad,cd,e1⟩:=z1n hn ρ;refine⟨ρ,w,.value _,?_,Env.upTo.refl _ _,yyl _,rfl,h1,trivial,.inl rfl⟩;refine p9 ?_;rw[e1];cases ad<;>simp[Builtin.clear_,w4 hU,RV.cv,RV.cl]
      ·rename_i n hn;split at h
       ·rename_i l off n2 hh;split at h
        ·rename_i bty kk nn d tr hl;cases hg:okO s.H dv&&Nat.ble (off+(n+1)*z.len) nn&&Nat.ble nn (2 ^ d)
         ·rw[hg] at h;cases h
         ·rw[hg,cond_true,yya,yyn] at h;obtain⟨rfl,rfl⟩:=h;simp only[yyc] at hg;have g2:=yyd hg.1.2;have g3:=yyd hg.2;obtain⟨ad,cd,e1⟩:=z1n hn ρ;obtain⟨_,cd',e3⟩:=z4y h1 hh hg.1.1;have hj:n2=n+1:=by rw[e1] at e3;injection e3 with _ e _;exact e.symm
          obtain⟨w',p1,p2⟩:=z00 h1 hl (q3k z1 (n+1)) (q20 z2 (n+1)) (by rw[q3y z ρ];exact g2) g3;refine⟨ρ,w',.value _,?_,Env.upTo.refl _ _,yyl _,rfl,p2,trivial,.inl rfl⟩;refine p9 ?_;have hk:(Builtin.zeroCells zv.cells (n+1)).toList=(z.rep (n+1)).cl ρ:=by rw[q3j];have:=q2a (n+1) (z.cl ρ);rw[j7] at this;rw[z4];simp only[Builtin.zeroCells,List.size_toArray,j7];simpa[j7] using this
          rw[e3,hj];simp[Builtin.clear_,w4 hU,z3,hk,p1,RV.cv,RV.cl]
        ·cases h
       ·cases h
      ·cases h
     ·cases h
    ·cases h
   ·cases h
  ·cases h
 ·cases h
end
end Ox
