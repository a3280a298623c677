/- Texts of the proof of the statement that the last text proves. -/
import Derived.Test.YtjecebccchhmhaaGreatDoorPsb
import Derived.LoopNIn
set_option linter.all false
set_option maxHeartbeats 2000000
variable{args:Array Go.Operand}{elem et kt t t' ty:Go.TypeId}{sv v:Go.Value}{cap clk d j l m n off p q:Nat}{x y:Go.Operand}{b empty g ok:Bool}{k:Go.IntKind}{cs:Array Go.Value}{gg:Nat×Bool}{af:Array Go.Edge}{row:Option Nat}{i:Go.TypeInfo}
namespace Ox
open Go Go.RowKit
variable {X:Ctx}{s:S}{M:Mem}{ρ:Env}{a a':Act}{w w':World}{QA:Exit→S→Prop}{K:S→Prop}{ops:List Oper}{ls fl fr:List Nat}{fuel:Nat}
variable{op:Op}{cs:List Prop}{v:AV}{L:List (Nat×AV)}{H:List (Nat×HO)}
def JF.firstG(i:Nat){ps:String}{nx:Nat}
  (hX:XOK X) (hf:fsB ops ls fl i=true) (ho:ops[i]?=some ⟨some d,op,ty,ps,af,some gg⟩) (hg:gOf ops L (some gg)=some g) (hD:g=true) (e3:isLoad op=false)
  (h:evq X.T op ⟨L,H,nx⟩=some (cs,v)) (hd:ltB d X.n=true) (hc:allP cs) (k:JF X ops K fl fuel (i::ls) ⟨(d,v)::L,H,nx⟩):JF X ops K fl (fuel+1) ls ⟨L,H,nx⟩:=by
 intro M ρ a a' w l fr ha hE hl hp h1 h2;simp only[fsB,yyc,yys] at hf;obtain⟨⟨⟨⟨hF,hy⟩,hf⟩,hA⟩,hs,hu⟩:=hf;simp only[frB,ho,yyc,yys] at hf;obtain⟨⟨_,h4⟩,e4⟩:=hf;have hB:i<ops.length:=(yy7.1 ho).1;have hG:i∉fr:=fun hc=>by simp at hy;exact hy (ha i hc)
 have hC:=y5.1 h4;have hh:∀ g∈fr,∀ q,ops[g]?=some q→halfB ops q (⟨some d,op,ty,ps,af,some gg⟩:Oper)=true:=by intro g hg q hq;simp only[apB,ho] at hA;have:=yyz.1 hA g (ha g hg);rw[hq] at this;simp only[yyu] at this;refine this.resolve_left fun hw=>?_;obtain⟨e,he,hb,rfl⟩:=n4.1 hw;have:=(hC e (by simpa using he) hb).2;rw[x6] at this;simp[ha _ hg] at this
 obtain⟨hb,z,hz,hv⟩:=q5q hX.t (o:=⟨some d,op,ty,ps,af,some gg⟩) e3 h hc h1 h2;have hk:∀ (j:Nat) (o:Oper) cs b,ops.toArray[j]?=some o→o.op≠.select cs b:=Region.noSelect_spec hs;obtain⟨hH,hJ⟩:=PutsR.exec (o:=⟨some d,op,ty,ps,af,some gg⟩) (hk i _ · · (by simpa using ho)) hp fun g hg q hq=>(y6 (hh g hg q hq)).1;have hw:=(p7 (o:=⟨some d,op,ty,ps,af,some gg⟩) hg h2).trans hD;rw[show fuel+1+fr.length=(fuel+fr.length)+1 by omega];refine o8 (fun _ _ _ h=>q38 h) (i:=i) (oi:=⟨some d,op,ty,ps,af,some gg⟩) (v:=z) (by simpa using ho) hk (n5 hu) (fuel+fr.length) l a w ?_ ?_ (.inl ⟨hJ.symm.trans hw,by rw[← hH];exact hv⟩) ?_
 ·intro j oj hj hP hr hK;have hL:j<ops.length:=by have:=(yyj.1 hj).1;simpa using this
  refine q0n e4 j oj (by simpa using hj) (by omega) ?_ hK;rw[hl.getT hL] at hr;rw[yxq,x6];cases hc:ls.contains j with
  |false=>rfl
  |true=>rw[hc] at hr;simp at hr;simp[ha _ hr]
 ·refine mem_ready.2 ⟨by rw[hl.getT hB,hF];rfl,_,by simpa using ho,fun e he hb=>?_⟩;obtain⟨e1,e2⟩:=hC e (by simpa using he) hb;rw[x6,yyc] at e2;rw[hl.getT e1,e2.1];have:e.on∉fr:=fun hc=>by have:=e2.2;simp[ha _ hc] at this
  simp[this]
 ·exact k M ρ _ (a'.put (some d) z) w _ fr ha hE (hl.setNew hB hG) (PutsR.put (d:=some d) hp fun f hf o hM e he hN=>(y6 (hh f hf o hM)).2 e he hN)
   (z7 (d:=some d) (v:=v) h1) (h2.putO (d:=some d) (dstOk.spec (v6 hd)) hb hz)
def j00(i:Nat){ps:String}{nx:Nat}
  (hX:XOK X) (hf:fsB ops ls fl i=true) (ho:ops[i]?=some ⟨some d,op,ty,ps,af,some gg⟩) (hg:gOf ops L (some gg)=some g) (e3:isLoad op=false)
  (h:evq X.T op ⟨L,H,nx⟩=some (cs,v)) (hd:ltB d X.n=true) (hc:g=true→allP cs) (k:JF X ops K fl fuel (i::ls) ⟨(d,.gd g v)::L,H,nx⟩):JF X ops K fl (fuel+1) ls ⟨L,H,nx⟩:=by
 intro M ρ a a' w l fr ha hF hl hp h1 h2;simp only[fsB,yyc,yys] at hf;obtain⟨⟨⟨⟨hG,hA⟩,hf⟩,hB⟩,hs,hu⟩:=hf;simp only[frB,ho,yyc,yys] at hf;obtain⟨⟨_,h4⟩,e4⟩:=hf;have hC:i<ops.length:=(yy7.1 ho).1;have hH:i∉fr:=fun hc=>by simp at hA;exact hA (ha i hc)
 have hD:=y5.1 h4;have hh:∀ g∈fr,∀ q,ops[g]?=some q→halfB ops q (⟨some d,op,ty,ps,af,some gg⟩:Oper)=true:=by intro g hg q hq;simp only[apB,ho] at hB;have:=yyz.1 hB g (ha g hg);rw[hq] at this;simp only[yyu] at this;refine this.resolve_left fun hw=>?_;obtain⟨e,he,hb,rfl⟩:=n4.1 hw;have:=(hD e (by simpa using he) hb).2;rw[x6] at this;simp[ha _ hg] at this
 have hk:∀ (j:Nat) (o:Oper) cs b,ops.toArray[j]?=some o→o.op≠.select cs b:=Region.noSelect_spec hs;obtain⟨hJ,hE⟩:=PutsR.exec (o:=⟨some d,op,ty,ps,af,some gg⟩) (hk i _ · · (by simpa using ho)) hp fun g hg q hq=>(y6 (hh g hg q hq)).1;have hw:=p7 (o:=⟨some d,op,ty,ps,af,some gg⟩) hg h2;obtain⟨z,hb,hz,hy⟩:∃ z,(AV.gd g v).bd nx∧(AV.gd g v).rv M ρ z∧YA X.P ops.toArray ⟨some d,op,ty,ps,af,some gg⟩ z a:=by
  cases g with
  |true=>obtain⟨hb,z,hz,hv⟩:=q5q hX.t (o:=⟨some d,op,ty,ps,af,some gg⟩) e3 h (hc rfl) h1 h2;exact⟨z,fun _=>hb,by simp only[AV.rv];exact⟨fun _=>hz,fun h=>by cases h⟩,.inl ⟨hE.symm.trans hw,by rw[← hJ];exact hv⟩⟩
  |false=>exact⟨Go.undef,(fun h=>by cases h),by simp only[AV.rv];exact⟨(fun h=>by cases h),fun _=>trivial⟩,.inr ⟨hE.symm.trans hw,rfl⟩⟩
 rw[show fuel+1+fr.length=(fuel+fr.length)+1 by omega];refine o8 (fun _ _ _ h=>q38 h) (i:=i) (oi:=⟨some d,op,ty,ps,af,some gg⟩) (v:=z) (by simpa using ho) hk (n5 hu) (fuel+fr.length) l a w ?_ ?_ hy ?_
 ·intro j oj hj hP hr hK;have hL:j<ops.length:=by have:=(yyj.1 hj).1;simpa using this
  refine q0n e4 j oj (by simpa using hj) (by omega) ?_ hK;rw[hl.getT hL] at hr;rw[yxq,x6];cases hc:ls.contains j with
  |false=>rfl
  |true=>rw[hc] at hr;simp at hr;simp[ha _ hr]
 ·refine mem_ready.2 ⟨by rw[hl.getT hC,hG];rfl,_,by simpa using ho,fun e he hb=>?_⟩;obtain⟨e1,e2⟩:=hD e (by simpa using he) hb;rw[x6,yyc] at e2;rw[hl.getT e1,e2.1];have:e.on∉fr:=fun hc=>by have:=e2.2;simp[ha _ hc] at this
  simp[this]
 ·exact k M ρ _ (a'.put (some d) z) w _ fr ha hF (hl.setNew hC hH) (PutsR.put (d:=some d) hp fun f hf o hM e he hN=>(y6 (hh f hf o hM)).2 e he hN)
   (z7 (d:=some d) (v:=.gd g v) h1) (h2.putO (d:=some d) (dstOk.spec (v6 hd)) hb hz)
def p8(i:Nat){ps:String}{nx:Nat}
  (hX:XOK X) (ho:ops[i]?=some ⟨some d,op,ty,ps,af,some gg⟩) (hg:gOf ops L (some gg)=some g) (h:evq X.T op ⟨L,H,nx⟩=some (cs,v)) (k:JF X ops K fl fuel (i::ls) ⟨(d,.gd g v)::L,H,nx⟩)
  (hf:fsB ops ls fl i=true:=by decide +kernel) (e3:isLoad op=false:=by rfl) (hd:ltB d X.n=true:=by rfl) (hc:g=true→allP cs:=by exact zE) :
  JF X ops K fl (fuel+1) ls ⟨L,H,nx⟩:=j00 i hX hf ho hg e3 h hd hc k
end Ox
namespace Ox
open Go Go.RowKit
noncomputable section
def bAnd(x y:Bool):Bool:=@Bool.rec (fun _=>Bool) false y x
def k9{x y:Bool}:bAnd x y=true↔x=true∧y=true:=by cases x<;>cases y<;>simp[bAnd]
def kEqF(a b:IntKind):Bool:=Nat.beq a.ctorIdx b.ctorIdx
def kEqF_eq(a b:IntKind):kEqF a b=decide (a=b):=by cases a<;>cases b<;>rfl
def bEqF(a b:Bool):Bool:=@Bool.rec (fun _=>Bool) (@Bool.rec (fun _=>Bool) true false b) b a
def z9z(a b:Bool):bEqF a b=(a==b):=by cases a<;>cases b<;>rfl
def iEq(a b:Int):Bool:=@Int.rec (fun _=>Int→Bool) (fun m b=>@Int.rec (fun _=>Bool) (fun n=>Nat.beq m n) (fun _=>false) b) (fun m b=>@Int.rec (fun _=>Bool) (fun _=>false) (fun n=>Nat.beq n m) b) a b
def z0t(a b:Int):iEq a b=(a==b):=by rw[yy5];cases a<;>cases b<;>simp[iEq]<;>omega
def RV.eqb(a:RV):RV→Bool:=@RV.rec (fun _=>RV→Bool) (fun k j b=>@RV.rec (fun _=>Bool) (fun k2 j2=>bAnd (kEqF k k2) (iEq j j2)) (fun _=>false) (false) (false) (false) (false) (false) (fun _ _=>false) (fun _ _ _ _=>false) (fun _ _ _ _ _ _=>false) (fun _=>false) (fun _=>false) (fun _=>false) (fun _ _ _ _ _=>false) (fun _ _=>false) (fun _ _=>false) (false) (fun _ _ _ _=>false) b) (fun x b=>@RV.rec (fun _=>Bool) (fun _ _=>false) (fun x2=>bEqF x x2) (false) (false) (false) (false) (false) (fun _ _=>false) (fun _ _ _ _=>false) (fun _ _ _ _ _ _=>false) (fun _=>false) (fun _=>false) (fun _=>false) (fun _ _ _ _ _=>false) (fun _ _=>false) (fun _ _=>false) (false) (fun _ _ _ _=>false) b) (fun b=>@RV.rec (fun _=>Bool) (fun _ _=>false) (fun _=>false) (true) (false) (false) (false) (false) (fun _ _=>false) (fun _ _ _ _=>false) (fun _ _ _ _ _ _=>false) (fun _=>false) (fun _=>false) (fun _=>false) (fun _ _ _ _ _=>false) (fun _ _=>false) (fun _ _=>false) (false) (fun _ _ _ _=>false) b) (fun b=>@RV.rec (fun _=>Bool) (fun _ _=>false) (fun _=>false) (false) (true) (false) (false) (false) (fun _ _=>false) (fun _ _ _ _=>false) (fun _ _ _ _ _ _=>false) (fun _=>false) (fun _=>false) (fun _=>false) (fun _ _ _ _ _=>false) (fun _ _=>false) (fun _ _=>false) (false) (fun _ _ _ _=>false) b) (fun b=>@RV.rec (fun _=>Bool) (fun _ _=>false) (fun _=>false) (false) (false) (true) (false) (false) (fun _ _=>false) (fun _ _ _ _=>false) (fun _ _ _ _ _ _=>false) (fun _=>false) (fun _=>false) (fun _=>false) (fun _ _ _ _ _=>false) (fun _ _=>false) (fun _ _=>false) (false) (fun _ _ _ _=>false) b) (fun b=>@RV.rec (fun _=>Bool) (fun _ _=>false) (fun _=>false) (false) (false) (false) (true) (false) (fun _ _=>false) (fun _ _ _ _=>false) (fun _ _ _ _ _ _=>false) (fun _=>false) (fun _=>false) (fun _=>false) (fun _ _ _ _ _=>false) (fun _ _=>false) (fun _ _=>false) (false) (fun _ _ _ _=>false) b) (fun b=>@RV.rec (fun _=>Bool) (fun _ _=>false) (fun _=>false) (false) (false) (false) (false) (true) (fun _ _=>false) (fun _ _ _ _=>false) (fun _ _ _ _ _ _=>false) (fun _=>false) (fun _=>false) (fun _=>false) (fun _ _ _ _ _=>false) (fun _ _=>false) (fun _ _=>false) (false) (fun _ _ _ _=>false) b) (fun l q b=>@RV.rec (fun _=>Bool) (fun _ _=>false) (fun _=>false) (false) (false) (false) (false) (false) (fun l2 q2=>bAnd (Nat.beq l l2) (Nat.beq q q2)) (fun _ _ _ _=>false) (fun _ _ _ _ _ _=>false) (fun _=>false) (fun _=>false) (fun _=>false) (fun _ _ _ _ _=>false) (fun _ _=>false) (fun _ _=>false) (false) (fun _ _ _ _=>false) b) (fun l q n c b=>@RV.rec (fun _=>Bool) (fun _ _=>false) (fun _=>false) (false) (false) (false) (false) (false) (fun _ _=>false) (fun l2 q2 n2 c2=>bAnd (Nat.beq l l2) (bAnd (Nat.beq q q2) (bAnd (Nat.beq n n2) (Nat.beq c c2)))) (fun _ _ _ _ _ _=>false) (fun _=>false) (fun _=>false) (fun _=>false) (fun _ _ _ _ _=>false) (fun _ _=>false) (fun _ _=>false) (false) (fun _ _ _ _=>false) b) (fun l e a d w z b=>@RV.rec (fun _=>Bool) (fun _ _=>false) (fun _=>false) (false) (false) (false) (false) (false) (fun _ _=>false) (fun _ _ _ _=>false) (fun l2 e2 a2 d2 w2 z2=>bAnd (Nat.beq l l2) (bAnd (Nat.beq e e2) (bAnd (Nat.beq a a2) (bAnd (Nat.beq d d2) (bAnd (bEqF w w2) (Nat.beq z z2)))))) (fun _=>false) (fun _=>false) (fun _=>false) (fun _ _ _ _ _=>false) (fun _ _=>false) (fun _ _=>false) (false) (fun _ _ _ _=>false) b) (fun l b=>@RV.rec (fun _=>Bool) (fun _ _=>false) (fun _=>false) (false) (false) (false) (false) (false) (fun _ _=>false) (fun _ _ _ _=>false) (fun _ _ _ _ _ _=>false) (fun l2=>Nat.beq l l2) (fun _=>false) (fun _=>false) (fun _ _ _ _ _=>false) (fun _ _=>false) (fun _ _=>false) (false) (fun _ _ _ _=>false) b) (fun l b=>@RV.rec (fun _=>Bool) (fun _ _=>false) (fun _=>false) (false) (false) (false) (false) (false) (fun _ _=>false) (fun _ _ _ _=>false) (fun _ _ _ _ _ _=>false) (fun _=>false) (fun l2=>Nat.beq l l2) (fun _=>false) (fun _ _ _ _ _=>false) (fun _ _=>false) (fun _ _=>false) (false) (fun _ _ _ _=>false) b) (fun l b=>@RV.rec (fun _=>Bool) (fun _ _=>false) (fun _=>false) (false) (false) (false) (false) (false) (fun _ _=>false) (fun _ _ _ _=>false) (fun _ _ _ _ _ _=>false) (fun _=>false) (fun _=>false) (fun l2=>Nat.beq l l2) (fun _ _ _ _ _=>false) (fun _ _=>false) (fun _ _=>false) (false) (fun _ _ _ _=>false) b) (fun fi a c iha ihc b=>@RV.rec (fun _=>Bool) (fun _ _=>false) (fun _=>false) (false) (false) (false) (false) (false) (fun _ _=>false) (fun _ _ _ _=>false) (fun _ _ _ _ _ _=>false) (fun _=>false) (fun _=>false) (fun _=>false) (fun fi2 a2 c2 _ _=>bAnd (Nat.beq fi fi2) (bAnd (iha a2) (ihc c2))) (fun _ _=>false) (fun _ _=>false) (false) (fun _ _ _ _=>false) b) (fun c ih b=>@RV.rec (fun _=>Bool) (fun _ _=>false) (fun _=>false) (false) (false) (false) (false) (false) (fun _ _=>false) (fun _ _ _ _=>false) (fun _ _ _ _ _ _=>false) (fun _=>false) (fun _=>false) (fun _=>false) (fun _ _ _ _ _=>false) (fun c2 _=>ih c2) (fun _ _=>false) (false) (fun _ _ _ _=>false) b) (fun c ih b=>@RV.rec (fun _=>Bool) (fun _ _=>false) (fun _=>false) (false) (false) (false) (false) (false) (fun _ _=>false) (fun _ _ _ _=>false) (fun _ _ _ _ _ _=>false) (fun _=>false) (fun _=>false) (fun _=>false) (fun _ _ _ _ _=>false) (fun _ _=>false) (fun c2 _=>ih c2) (false) (fun _ _ _ _=>false) b) (fun b=>@RV.rec (fun _=>Bool) (fun _ _=>false) (fun _=>false) (false) (false) (false) (false) (false) (fun _ _=>false) (fun _ _ _ _=>false) (fun _ _ _ _ _ _=>false) (fun _=>false) (fun _=>false) (fun _=>false) (fun _ _ _ _ _=>false) (fun _ _=>false) (fun _ _=>false) (true) (fun _ _ _ _=>false) b) (fun a r iha ihr b=>@RV.rec (fun _=>Bool) (fun _ _=>false) (fun _=>false) (false) (false) (false) (false) (false) (fun _ _=>false) (fun _ _ _ _=>false) (fun _ _ _ _ _ _=>false) (fun _=>false) (fun _=>false) (fun _=>false) (fun _ _ _ _ _=>false) (fun _ _=>false) (fun _ _=>false) (false) (fun a2 r2 _ _=>bAnd (iha a2) (ihr r2)) b) a
def u7:∀ {a b:RV},a.eqb b=true→a=b:=by
 intro a;induction a<;>intro b h<;>cases b<;>first|rfl|(cases (show false=true from h);done)|skip
 case i k j k2 j2=>have h:=k9.1 (show bAnd (kEqF k k2) (iEq j j2)=true from h);rw[kEqF_eq,z0t] at h;simp only[yyq,beq_iff_eq] at h;rw[h.1,h.2]
 case b x x2=>have h:bEqF x x2=true:=h;rw[z9z] at h;rw[eq_of_beq h]
 case p l q l2 q2=>have h:=k9.1 (show bAnd (Nat.beq l l2) (Nat.beq q q2)=true from h);rw[yyg h.1,yyg h.2]
 case s l q n c l2 q2 n2 c2=>have h:bAnd (Nat.beq l l2) (bAnd (Nat.beq q q2) (bAnd (Nat.beq n n2) (Nat.beq c c2)))=true:=h;simp only[k9] at h;rw[yyg h.1,yyg h.2.1,yyg h.2.2.1,yyg h.2.2.2]
 case o l e a d w z l2 e2 a2 d2 w2 z2=>have h:bAnd (Nat.beq l l2) (bAnd (Nat.beq e e2) (bAnd (Nat.beq a a2) (bAnd (Nat.beq d d2) (bAnd (bEqF w w2) (Nat.beq z z2)))))=true:=h;simp only[k9,z9z,beq_iff_eq] at h;rw[yyg h.1,yyg h.2.1,yyg h.2.2.1,yyg h.2.2.2.1,h.2.2.2.2.1,yyg h.2.2.2.2.2]
 case m l l2=>rw[yyg (show Nat.beq l l2=true from h)]
 case it l l2=>rw[yyg (show Nat.beq l l2=true from h)]
 case y l l2=>rw[yyg (show Nat.beq l l2=true from h)]
 case f fi a c iha ihc fi2 a2 c2=>have h:bAnd (Nat.beq fi fi2) (bAnd (a.eqb a2) (c.eqb c2))=true:=h;simp only[k9] at h;rw[yyg h.1,iha h.2.1,ihc h.2.2]
 case g c ih c2=>rw[ih (show c.eqb c2=true from h)]
 case t c ih c2=>rw[ih (show c.eqb c2=true from h)]
 case cons a r iha ihr a2 r2=>have h:=k9.1 (show bAnd (a.eqb a2) (r.eqb r2)=true from h);rw[iha h.1,ihr h.2]
inductive Tr
 |lf (v:RV)
 |nd (l r:Tr)
def Tr.get(t:Tr):Nat→RV:=@Tr.rec (fun _=>Nat→RV) (fun v _=>v) (fun _ _ l r i=>@Bool.rec (fun _=>RV) (r (Nat.div i 2)) (l (Nat.div i 2)) (Nat.beq (Nat.mod i 2) 0)) t
def z99(v:RV)(i:Nat):(Tr.lf v).get i=v:=rfl
def q2x(l r:Tr)(i:Nat):(Tr.nd l r).get i=bif Nat.beq (i % 2) 0 then l.get (i / 2) else r.get (i / 2):=by show @Bool.rec (fun _=>RV) (r.get (i / 2)) (l.get (i / 2)) (Nat.beq (i % 2) 0)=_;cases Nat.beq (i % 2) 0<;>rfl
def Tr.mk(l:Tr):Tr→Tr:=@Tr.rec (fun _=>Tr→Tr) (fun a r=>@Tr.rec (fun _=>RV→Tr) (fun b a=>@Bool.rec (fun _=>Tr) (.nd (.lf a) (.lf b)) (.lf a) (a.eqb b)) (fun l' r' _ _ a=>.nd (.lf a) (.nd l' r')) r a) (fun l1 l2 _ _ r=>.nd (.nd l1 l2) r) l
def Tr.left(t:Tr):Tr:=@Tr.rec (fun _=>Tr) (fun v=>.lf v) (fun l _ _ _=>l) t
def Tr.right(t:Tr):Tr:=@Tr.rec (fun _=>Tr) (fun v=>.lf v) (fun _ r _ _=>r) t
def Tr.set(d:Nat):Tr→Nat→RV→Tr:=@Nat.rec (fun _=>Tr→Nat→RV→Tr) (fun _ _ v=>.lf v) (fun _ ih t i v=>@Bool.rec (fun _=>Tr) (Tr.mk t.left (ih t.right (Nat.div i 2) v)) (Tr.mk (ih t.left (Nat.div i 2) v) t.right) (Nat.beq (Nat.mod i 2) 0)) d
def Tr.set_0(t:Tr)(i:Nat)(v:RV):Tr.set 0 t i v=.lf v:=rfl
def Tr.set_s(d:Nat)(t:Tr)(i:Nat)(v:RV):Tr.set (d+1) t i v=bif Nat.beq (i % 2) 0 then Tr.mk (Tr.set d t.left (i / 2) v) t.right else Tr.mk t.left (Tr.set d t.right (i / 2) v):=by show @Bool.rec (fun _=>Tr) (Tr.mk t.left (Tr.set d t.right (i / 2) v)) (Tr.mk (Tr.set d t.left (i / 2) v) t.right) (Nat.beq (i % 2) 0)=_;cases Nat.beq (i % 2) 0<;>rfl
def z07(l r:Tr)(i:Nat):(Tr.mk l r).get i=bif Nat.beq (i % 2) 0 then l.get (i / 2) else r.get (i / 2):=by
 cases l with
 |nd l1 l2=>exact q2x _ _ _
 |lf a=>
  cases r with
  |nd r1 r2=>exact q2x _ _ _
  |lf b=>
   show(@Bool.rec (fun _=>Tr) (.nd (.lf a) (.lf b)) (.lf a) (a.eqb b):Tr).get i=_;cases h:a.eqb b
   ·exact q2x _ _ _
   ·have:=u7 h;subst this;show a=bif Nat.beq (i % 2) 0 then a else a;cases Nat.beq (i % 2) 0<;>rfl
def q4z(t:Tr)(i:Nat):t.get i=bif Nat.beq (i % 2) 0 then t.left.get (i / 2) else t.right.get (i / 2):=by
 cases t with
 |lf v=>show v=bif Nat.beq (i % 2) 0 then v else v;cases Nat.beq (i % 2) 0<;>rfl
 |nd l r=>exact q2x _ _ _
def q5u:∀ {d:Nat} {t:Tr} {i j:Nat} {v:RV},i<2 ^ d→j<2 ^ d→(Tr.set d t i v).get j=if j=i then v else t.get j
 |0,t,i,j,v,hi,hj=>by
  have:j=i:=by simp at hi hj;omega
  rw[Tr.set_0,z99,if_pos this]
 |d+1,t,i,j,v,hi,hj=>by
  have ha:i / 2<2 ^ d:=by rw[Nat.pow_succ] at hi;omega
  have hd:j / 2<2 ^ d:=by rw[Nat.pow_succ] at hj;omega
  rw[Tr.set_s];cases hb:Nat.beq (i % 2) 0
  ·have h1:i % 2=1:=by
    have:¬ i % 2=0:=fun h=>by rw[h] at hb;cases hb
    omega
   rw[cond_false,z07];cases hc:Nat.beq (j % 2) 0
   ·have h2:j % 2=1:=by
     have:¬ j % 2=0:=fun h=>by rw[h] at hc;cases hc
     omega
    rw[cond_false,q5u ha hd,q4z t j,hc,cond_false];by_cases e:j=i
    ·rw[if_pos e,if_pos (by rw[e])]
    ·rw[if_neg e,if_neg (by omega)]
   ·have h2:j % 2=0:=yyg hc;rw[cond_true,q4z t j,hc,cond_true,if_neg (by omega)]
  ·have h1:i % 2=0:=yyg hb;rw[cond_true,z07];cases hc:Nat.beq (j % 2) 0
   ·have h2:j % 2=1:=by
     have:¬ j % 2=0:=fun h=>by rw[h] at hc;cases hc
     omega
    rw[cond_false,q4z t j,hc,cond_false,if_neg (by omega)]
   ·have h2:j % 2=0:=yyg hc;rw[cond_true,q5u ha hd,q4z t j,hc,cond_true];by_cases e:j=i
    ·rw[if_pos e,if_pos (by rw[e])]
    ·rw[if_neg e,if_neg (by omega)]
def Tr.cut(t:Tr)(n:Nat):Nat→RV:=@Nat.rec (fun _=>Nat→RV) (fun _=>.nil) (fun _ ih i=>.cons (t.get i) (ih (Nat.succ i))) n
def q9q(t:Tr)(n i:Nat):t.cut (n+1) i=.cons (t.get i) (t.cut n (i+1)):=rfl
def Tr.put(d:Nat)(r:RV):Tr→Nat→Tr:=@RV.rec (fun _=>Tr→Nat→Tr) (fun _ _ t _=>t) (fun _ t _=>t) (fun t _=>t) (fun t _=>t) (fun t _=>t) (fun t _=>t) (fun t _=>t) (fun _ _ t _=>t) (fun _ _ _ _ t _=>t) (fun _ _ _ _ _ _ t _=>t) (fun _ t _=>t) (fun _ t _=>t) (fun _ t _=>t) (fun _ _ _ _ _ t _=>t) (fun _ _ t _=>t) (fun _ _ t _=>t) (fun t _=>t) (fun a _ _ ih t i=>ih (Tr.set d t i a) (Nat.succ i)) r
def Tr.put_c(d:Nat)(a r:RV)(t:Tr)(i:Nat):Tr.put d (.cons a r) t i=Tr.put d r (Tr.set d t i a) (i+1):=rfl
def RV.len(r:RV):Nat:=@RV.rec (fun _=>Nat) (fun _ _=>0) (fun _=>0) (0) (0) (0) (0) (0) (fun _ _=>0) (fun _ _ _ _=>0) (fun _ _ _ _ _ _=>0) (fun _=>0) (fun _=>0) (fun _=>0) (fun _ _ _ _ _=>0) (fun _ _=>0) (fun _ _=>0) (0) (fun _ _ _ ih=>Nat.succ ih) r
def m9(a r:RV):(RV.cons a r).len=r.len+1:=rfl
def RV.nth(r:RV):Nat→RV:=@RV.rec (fun _=>Nat→RV) (fun _ _ _=>.u) (fun _ _=>.u) (fun _=>.u) (fun _=>.u) (fun _=>.u) (fun _=>.u) (fun _=>.u) (fun _ _ _=>.u) (fun _ _ _ _ _=>.u) (fun _ _ _ _ _ _ _=>.u) (fun _ _=>.u) (fun _ _=>.u) (fun _ _=>.u) (fun _ _ _ _ _ _=>.u) (fun _ _ _=>.u) (fun _ _ _=>.u) (fun _=>.u) (fun a _ _ ih k=>@Nat.rec (fun _=>RV) a (fun j _=>ih j) k) r
def q6l(a r:RV)(k:Nat):(RV.cons a r).nth (k+1)=r.nth k:=rfl
def j0(ρ:Env):∀ r:RV,(r.cl ρ).length=r.len
 |.cons a r=>by rw[m9,RV.cl,List.length_cons,j0 ρ r]
 |.i ..|.b _|.np|.ns|.fz|.nm|.u|.nil|.p ..|.s ..|.m _|.it _|.y _|.o ..|.f ..|.g _|.t _=>rfl
def r9(ρ:Env):∀ {r:RV} {i:Nat},i<r.len→(r.cl ρ)[i]?=some ((r.nth i).cv ρ)
 |.cons a r,0,_=>rfl
 |.cons a r,q+1,h=>by rw[q6l,RV.cl,yxk];exact r9 ρ (by rw[m9] at h;omega)
 |.i ..,_,h|.b _,_,h|.np,_,h|.ns,_,h|.fz,_,h|.nm,_,h|.u,_,h|.nil,_,h|.p ..,_,h|.s ..,_,h|.m _,_,h|.it _,_,h|.y _,_,h|.o ..,_,h|.f ..,_,h|.g _,_,h|.t _,_,h=>absurd h (Nat.not_lt_zero _)
def m8{n:Nat}:∀ {r:RV} {i:Nat},r.bd n→(r.nth i).bd n
 |.cons a r,0,h=>h.1
 |.cons a r,q+1,h=>m8 (r:=r) h.2
 |.i ..,_,_|.b _,_,_|.np,_,_|.ns,_,_|.fz,_,_|.nm,_,_|.u,_,_|.nil,_,_|.p ..,_,_|.s ..,_,_|.m _,_,_|.it _,_,_|.y _,_,_|.o ..,_,_|.f ..,_,_|.g _,_,_|.t _,_,_=>trivial
def t7(t:Tr):∀ n i,(t.cut n i).len=n
 |0,_=>rfl
 |n+1,i=>by rw[q9q,m9,t7 t n (i+1)]
def q8g(t:Tr):∀ {n i j:Nat},j<n→(t.cut n i).nth j=t.get (i+j)
 |n+1,i,0,_=>rfl
 |n+1,i,j+1,h=>by rw[q9q,q6l,q8g t (by omega)];congr 1;omega
def q41{t:Tr}{m:Nat}:∀ {n i:Nat},(∀ j,i≤j→j<i+n→(t.get j).bd m)→(t.cut n i).bd m
 |0,_,_=>trivial
 |n+1,i,h=>⟨h i (yyo _) (by omega),q41 fun j h1 h2=>h j (by omega) (by omega)⟩
def m5{d:Nat}:∀ {r:RV} {t:Tr} {i j:Nat},i+r.len≤2 ^ d→j<2 ^ d→(Tr.put d r t i).get j=if i≤j∧j<i+r.len then r.nth (j-i) else t.get j
 |.cons a r,t,i,j,h,hj=>by
  have hl:(RV.cons a r).len=r.len+1:=rfl;rw[hl] at h;rw[Tr.put_c,m5 (by omega) hj,q5u (by omega) hj];by_cases e:j=i
  ·subst e;rw[if_neg (by omega),if_pos rfl,if_pos (by omega),Nat.sub_self];rfl
  ·rw[if_neg e];by_cases e2:i+1≤j∧j<i+1+r.len
   ·rw[if_pos e2,if_pos (by omega),show j-i=(j-(i+1))+1 by omega];rfl
   ·rw[if_neg e2,if_neg (by omega)]
 |.i ..,t,i,j,_,_|.b _,t,i,j,_,_|.np,t,i,j,_,_|.ns,t,i,j,_,_|.fz,t,i,j,_,_|.nm,t,i,j,_,_|.u,t,i,j,_,_|.nil,t,i,j,_,_|.p ..,t,i,j,_,_|.s ..,t,i,j,_,_
 |.m _,t,i,j,_,_|.it _,t,i,j,_,_|.y _,t,i,j,_,_|.o ..,t,i,j,_,_|.f ..,t,i,j,_,_|.g _,t,i,j,_,_|.t _,t,i,j,_,_=>by rw[if_neg (fun h=>absurd (Nat.lt_of_le_of_lt h.1 h.2) (Nat.lt_irrefl _))];rfl
def RV.alike(v r:RV):Bool:=@RV.rec (fun _=>Bool) (fun _ _=>true) (fun _=>true) (true) (true) (true) (true) (true) (fun _ _=>true) (fun _ _ _ _=>true) (fun _ _ _ _ _ _=>true) (fun _=>true) (fun _=>true) (fun _=>true) (fun _ _ _ _ _=>true) (fun _ _=>true) (fun _ _=>true) (true) (fun a _ _ ih=>bAnd (v.eqb a) ih) r
def q55{v:RV}:∀ {r:RV} {i:Nat},v.alike r=true→i<r.len→r.nth i=v
 |.cons a r,0,h,_=>(u7 (k9.1 (show bAnd (v.eqb a) (v.alike r)=true from h)).1).symm
 |.cons a r,q+1,h,hi=>q55 (r:=r) (k9.1 (show bAnd (v.eqb a) (v.alike r)=true from h)).2 (by rw[m9] at hi;omega)
 |.i ..,_,_,h|.b _,_,_,h|.np,_,_,h|.ns,_,_,h|.fz,_,_,h|.nm,_,_,h|.u,_,_,h|.nil,_,_,h|.p ..,_,_,h|.s ..,_,_,h|.m _,_,_,h|.it _,_,_,h|.y _,_,_,h|.o ..,_,_,h|.f ..,_,_,h|.g _,_,_,h|.t _,_,_,h=>absurd h (Nat.not_lt_zero _)
def Tr.ofL(d:Nat)(r:RV):Tr:=
 match r with
 |.cons a b=>bif a.alike b then .lf a else Tr.put d (.cons a b) (.lf a) 0
 |_=>.lf .u
def q5v{r:RV}{i:Nat}(h:r.len≤2 ^ d)(hi:i<r.len):(Tr.ofL d r).get i=r.nth i:=by
 unfold Tr.ofL;split
 ·rename_i a b;cases ha:RV.alike a b
  ·rw[cond_false,m5 (by omega) (by omega),if_pos (by omega),Nat.sub_zero]
  ·rw[cond_true];cases i with
   |zero=>rfl
   |succ i=>rw[m9] at hi;exact(q55 ha (by omega)).symm
 ·rename_i hn;cases r<;>first|(exact absurd rfl (hn _ _))|(exact absurd hi (Nat.not_lt_zero _))
inductive N8(β:Type)
 |e
 |n (a0 a1 a2 a3 a4 a5 a6 a7:β)
section
variable {β α:Type}
def N8.vals(z:β):N8 β→List β
 |.e=>[z,z,z,z,z,z,z,z]
 |.n a0 a1 a2 a3 a4 a5 a6 a7=>[a0,a1,a2,a3,a4,a5,a6,a7]
inductive Bx(α:Type)
 |mk (a:α)
def Bx.out:Bx α→α
 |.mk a=>a
def nthB(d:α)(l:List α):Nat→α:=@List.rec _ (fun _=>Nat→α) (fun _=>d) (fun a _ ih n=>@Nat.rec (fun _=>α) a (fun k _=>ih k) n) l
def g8_(z:β):Bx (N8 β→β):=.mk fun _=>z
def p8_:Bx ((β→β)→N8 β→N8 β):=.mk fun _ t=>t
def tg8(z:β):List (Bx (N8 β→β)):=[.mk fun t=>@N8.rec _ (fun _=>β) z (fun a0 a1 a2 a3 a4 a5 a6 a7=>a0) t,
 .mk fun t=>@N8.rec _ (fun _=>β) z (fun a0 a1 a2 a3 a4 a5 a6 a7=>a1) t,
 .mk fun t=>@N8.rec _ (fun _=>β) z (fun a0 a1 a2 a3 a4 a5 a6 a7=>a2) t,
 .mk fun t=>@N8.rec _ (fun _=>β) z (fun a0 a1 a2 a3 a4 a5 a6 a7=>a3) t,
 .mk fun t=>@N8.rec _ (fun _=>β) z (fun a0 a1 a2 a3 a4 a5 a6 a7=>a4) t,
 .mk fun t=>@N8.rec _ (fun _=>β) z (fun a0 a1 a2 a3 a4 a5 a6 a7=>a5) t,
 .mk fun t=>@N8.rec _ (fun _=>β) z (fun a0 a1 a2 a3 a4 a5 a6 a7=>a6) t,
 .mk fun t=>@N8.rec _ (fun _=>β) z (fun a0 a1 a2 a3 a4 a5 a6 a7=>a7) t]
def tp8(z:β):List (Bx ((β→β)→N8 β→N8 β)):=[.mk fun f t=>@N8.rec _ (fun _=>(β→β)→N8 β) (fun f=>.n (f z) z z z z z z z) (fun a0 a1 a2 a3 a4 a5 a6 a7 f=>.n (f a0) a1 a2 a3 a4 a5 a6 a7) t f,
 .mk fun f t=>@N8.rec _ (fun _=>(β→β)→N8 β) (fun f=>.n z (f z) z z z z z z) (fun a0 a1 a2 a3 a4 a5 a6 a7 f=>.n a0 (f a1) a2 a3 a4 a5 a6 a7) t f,
 .mk fun f t=>@N8.rec _ (fun _=>(β→β)→N8 β) (fun f=>.n z z (f z) z z z z z) (fun a0 a1 a2 a3 a4 a5 a6 a7 f=>.n a0 a1 (f a2) a3 a4 a5 a6 a7) t f,
 .mk fun f t=>@N8.rec _ (fun _=>(β→β)→N8 β) (fun f=>.n z z z (f z) z z z z) (fun a0 a1 a2 a3 a4 a5 a6 a7 f=>.n a0 a1 a2 (f a3) a4 a5 a6 a7) t f,
 .mk fun f t=>@N8.rec _ (fun _=>(β→β)→N8 β) (fun f=>.n z z z z (f z) z z z) (fun a0 a1 a2 a3 a4 a5 a6 a7 f=>.n a0 a1 a2 a3 (f a4) a5 a6 a7) t f,
 .mk fun f t=>@N8.rec _ (fun _=>(β→β)→N8 β) (fun f=>.n z z z z z (f z) z z) (fun a0 a1 a2 a3 a4 a5 a6 a7 f=>.n a0 a1 a2 a3 a4 (f a5) a6 a7) t f,
 .mk fun f t=>@N8.rec _ (fun _=>(β→β)→N8 β) (fun f=>.n z z z z z z (f z) z) (fun a0 a1 a2 a3 a4 a5 a6 a7 f=>.n a0 a1 a2 a3 a4 a5 (f a6) a7) t f,
 .mk fun f t=>@N8.rec _ (fun _=>(β→β)→N8 β) (fun f=>.n z z z z z z z (f z)) (fun a0 a1 a2 a3 a4 a5 a6 a7 f=>.n a0 a1 a2 a3 a4 a5 a6 (f a7)) t f]
def g8_ok(i:Nat)(z:β)(t:N8 β):(nthB (g8_ z) (tg8 z) i).out t=(t.vals z).getD i z:=by
 match i with
 |0|1|2|3|4|5|6|7=>cases t<;>rfl
 |k+8=>cases t<;>rfl
def p8_ok(i:Nat)(z:β)(f:β→β)(t:N8 β):((nthB p8_ (tp8 z) i).out f t).vals z=(t.vals z).set i (f ((t.vals z).getD i z)):=by
 match i with
 |0|1|2|3|4|5|6|7=>cases t<;>rfl
 |k+8=>cases t<;>rfl
def q8o(z:β)(t:N8 β):(t.vals z).length=8:=by cases t<;>rfl
def q4p{l:List β}{i j:Nat}{x z:β}:(l.set i x).getD j z=if i=j∧i<l.length then x else l.getD j z:=by
 simp only[yyp,List.getElem?_set];by_cases h:i=j
 ·subst h;by_cases hl:i<l.length
  ·simp[hl]
  ·simp[hl]
 ·simp[h]
end
inductive N16(β:Type)
 |e
 |n (a0 a1 a2 a3 a4 a5 a6 a7 a8 a9 a10 a11 a12 a13 a14 a15:β)
section
variable {β α:Type}
def N16.vals(z:β):N16 β→List β
 |.e=>[z,z,z,z,z,z,z,z,z,z,z,z,z,z,z,z]
 |.n a0 a1 a2 a3 a4 a5 a6 a7 a8 a9 a10 a11 a12 a13 a14 a15=>[a0,a1,a2,a3,a4,a5,a6,a7,a8,a9,a10,a11,a12,a13,a14,a15]
def g16_(z:β):Bx (N16 β→β):=.mk fun _=>z
def p16_:Bx ((β→β)→N16 β→N16 β):=.mk fun _ t=>t
def tg16(z:β):List (Bx (N16 β→β)):=[.mk fun t=>@N16.rec _ (fun _=>β) z (fun a0 a1 a2 a3 a4 a5 a6 a7 a8 a9 a10 a11 a12 a13 a14 a15=>a0) t,
 .mk fun t=>@N16.rec _ (fun _=>β) z (fun a0 a1 a2 a3 a4 a5 a6 a7 a8 a9 a10 a11 a12 a13 a14 a15=>a1) t,
 .mk fun t=>@N16.rec _ (fun _=>β) z (fun a0 a1 a2 a3 a4 a5 a6 a7 a8 a9 a10 a11 a12 a13 a14 a15=>a2) t,
 .mk fun t=>@N16.rec _ (fun _=>β) z (fun a0 a1 a2 a3 a4 a5 a6 a7 a8 a9 a10 a11 a12 a13 a14 a15=>a3) t,
 .mk fun t=>@N16.rec _ (fun _=>β) z (fun a0 a1 a2 a3 a4 a5 a6 a7 a8 a9 a10 a11 a12 a13 a14 a15=>a4) t,
 .mk fun t=>@N16.rec _ (fun _=>β) z (fun a0 a1 a2 a3 a4 a5 a6 a7 a8 a9 a10 a11 a12 a13 a14 a15=>a5) t,
 .mk fun t=>@N16.rec _ (fun _=>β) z (fun a0 a1 a2 a3 a4 a5 a6 a7 a8 a9 a10 a11 a12 a13 a14 a15=>a6) t,
 .mk fun t=>@N16.rec _ (fun _=>β) z (fun a0 a1 a2 a3 a4 a5 a6 a7 a8 a9 a10 a11 a12 a13 a14 a15=>a7) t,
 .mk fun t=>@N16.rec _ (fun _=>β) z (fun a0 a1 a2 a3 a4 a5 a6 a7 a8 a9 a10 a11 a12 a13 a14 a15=>a8) t,
 .mk fun t=>@N16.rec _ (fun _=>β) z (fun a0 a1 a2 a3 a4 a5 a6 a7 a8 a9 a10 a11 a12 a13 a14 a15=>a9) t,
 .mk fun t=>@N16.rec _ (fun _=>β) z (fun a0 a1 a2 a3 a4 a5 a6 a7 a8 a9 a10 a11 a12 a13 a14 a15=>a10) t,
 .mk fun t=>@N16.rec _ (fun _=>β) z (fun a0 a1 a2 a3 a4 a5 a6 a7 a8 a9 a10 a11 a12 a13 a14 a15=>a11) t,
 .mk fun t=>@N16.rec _ (fun _=>β) z (fun a0 a1 a2 a3 a4 a5 a6 a7 a8 a9 a10 a11 a12 a13 a14 a15=>a12) t,
 .mk fun t=>@N16.rec _ (fun _=>β) z (fun a0 a1 a2 a3 a4 a5 a6 a7 a8 a9 a10 a11 a12 a13 a14 a15=>a13) t,
 .mk fun t=>@N16.rec _ (fun _=>β) z (fun a0 a1 a2 a3 a4 a5 a6 a7 a8 a9 a10 a11 a12 a13 a14 a15=>a14) t,
 .mk fun t=>@N16.rec _ (fun _=>β) z (fun a0 a1 a2 a3 a4 a5 a6 a7 a8 a9 a10 a11 a12 a13 a14 a15=>a15) t]
def tp16(z:β):List (Bx ((β→β)→N16 β→N16 β)):=[.mk fun f t=>@N16.rec _ (fun _=>(β→β)→N16 β) (fun f=>.n (f z) z z z z z z z z z z z z z z z) (fun a0 a1 a2 a3 a4 a5 a6 a7 a8 a9 a10 a11 a12 a13 a14 a15 f=>.n (f a0) a1 a2 a3 a4 a5 a6 a7 a8 a9 a10 a11 a12 a13 a14 a15) t f,
 .mk fun f t=>@N16.rec _ (fun _=>(β→β)→N16 β) (fun f=>.n z (f z) z z z z z z z z z z z z z z) (fun a0 a1 a2 a3 a4 a5 a6 a7 a8 a9 a10 a11 a12 a13 a14 a15 f=>.n a0 (f a1) a2 a3 a4 a5 a6 a7 a8 a9 a10 a11 a12 a13 a14 a15) t f,
 .mk fun f t=>@N16.rec _ (fun _=>(β→β)→N16 β) (fun f=>.n z z (f z) z z z z z z z z z z z z z) (fun a0 a1 a2 a3 a4 a5 a6 a7 a8 a9 a10 a11 a12 a13 a14 a15 f=>.n a0 a1 (f a2) a3 a4 a5 a6 a7 a8 a9 a10 a11 a12 a13 a14 a15) t f,
 .mk fun f t=>@N16.rec _ (fun _=>(β→β)→N16 β) (fun f=>.n z z z (f z) z z z z z z z z z z z z) (fun a0 a1 a2 a3 a4 a5 a6 a7 a8 a9 a10 a11 a12 a13 a14 a15 f=>.n a0 a1 a2 (f a3) a4 a5 a6 a7 a8 a9 a10 a11 a12 a13 a14 a15) t f,
 .mk fun f t=>@N16.rec _ (fun _=>(β→β)→N16 β) (fun f=>.n z z z z (f z) z z z z z z z z z z z) (fun a0 a1 a2 a3 a4 a5 a6 a7 a8 a9 a10 a11 a12 a13 a14 a15 f=>.n a0 a1 a2 a3 (f a4) a5 a6 a7 a8 a9 a10 a11 a12 a13 a14 a15) t f,
 .mk fun f t=>@N16.rec _ (fun _=>(β→β)→N16 β) (fun f=>.n z z z z z (f z) z z z z z z z z z z) (fun a0 a1 a2 a3 a4 a5 a6 a7 a8 a9 a10 a11 a12 a13 a14 a15 f=>.n a0 a1 a2 a3 a4 (f a5) a6 a7 a8 a9 a10 a11 a12 a13 a14 a15) t f,
 .mk fun f t=>@N16.rec _ (fun _=>(β→β)→N16 β) (fun f=>.n z z z z z z (f z) z z z z z z z z z) (fun a0 a1 a2 a3 a4 a5 a6 a7 a8 a9 a10 a11 a12 a13 a14 a15 f=>.n a0 a1 a2 a3 a4 a5 (f a6) a7 a8 a9 a10 a11 a12 a13 a14 a15) t f,
 .mk fun f t=>@N16.rec _ (fun _=>(β→β)→N16 β) (fun f=>.n z z z z z z z (f z) z z z z z z z z) (fun a0 a1 a2 a3 a4 a5 a6 a7 a8 a9 a10 a11 a12 a13 a14 a15 f=>.n a0 a1 a2 a3 a4 a5 a6 (f a7) a8 a9 a10 a11 a12 a13 a14 a15) t f,
 .mk fun f t=>@N16.rec _ (fun _=>(β→β)→N16 β) (fun f=>.n z z z z z z z z (f z) z z z z z z z) (fun a0 a1 a2 a3 a4 a5 a6 a7 a8 a9 a10 a11 a12 a13 a14 a15 f=>.n a0 a1 a2 a3 a4 a5 a6 a7 (f a8) a9 a10 a11 a12 a13 a14 a15) t f,
 .mk fun f t=>@N16.rec _ (fun _=>(β→β)→N16 β) (fun f=>.n z z z z z z z z z (f z) z z z z z z) (fun a0 a1 a2 a3 a4 a5 a6 a7 a8 a9 a10 a11 a12 a13 a14 a15 f=>.n a0 a1 a2 a3 a4 a5 a6 a7 a8 (f a9) a10 a11 a12 a13 a14 a15) t f,
 .mk fun f t=>@N16.rec _ (fun _=>(β→β)→N16 β) (fun f=>.n z z z z z z z z z z (f z) z z z z z) (fun a0 a1 a2 a3 a4 a5 a6 a7 a8 a9 a10 a11 a12 a13 a14 a15 f=>.n a0 a1 a2 a3 a4 a5 a6 a7 a8 a9 (f a10) a11 a12 a13 a14 a15) t f,
 .mk fun f t=>@N16.rec _ (fun _=>(β→β)→N16 β) (fun f=>.n z z z z z z z z z z z (f z) z z z z) (fun a0 a1 a2 a3 a4 a5 a6 a7 a8 a9 a10 a11 a12 a13 a14 a15 f=>.n a0 a1 a2 a3 a4 a5 a6 a7 a8 a9 a10 (f a11) a12 a13 a14 a15) t f,
 .mk fun f t=>@N16.rec _ (fun _=>(β→β)→N16 β) (fun f=>.n z z z z z z z z z z z z (f z) z z z) (fun a0 a1 a2 a3 a4 a5 a6 a7 a8 a9 a10 a11 a12 a13 a14 a15 f=>.n a0 a1 a2 a3 a4 a5 a6 a7 a8 a9 a10 a11 (f a12) a13 a14 a15) t f,
 .mk fun f t=>@N16.rec _ (fun _=>(β→β)→N16 β) (fun f=>.n z z z z z z z z z z z z z (f z) z z) (fun a0 a1 a2 a3 a4 a5 a6 a7 a8 a9 a10 a11 a12 a13 a14 a15 f=>.n a0 a1 a2 a3 a4 a5 a6 a7 a8 a9 a10 a11 a12 (f a13) a14 a15) t f,
 .mk fun f t=>@N16.rec _ (fun _=>(β→β)→N16 β) (fun f=>.n z z z z z z z z z z z z z z (f z) z) (fun a0 a1 a2 a3 a4 a5 a6 a7 a8 a9 a10 a11 a12 a13 a14 a15 f=>.n a0 a1 a2 a3 a4 a5 a6 a7 a8 a9 a10 a11 a12 a13 (f a14) a15) t f,
 .mk fun f t=>@N16.rec _ (fun _=>(β→β)→N16 β) (fun f=>.n z z z z z z z z z z z z z z z (f z)) (fun a0 a1 a2 a3 a4 a5 a6 a7 a8 a9 a10 a11 a12 a13 a14 a15 f=>.n a0 a1 a2 a3 a4 a5 a6 a7 a8 a9 a10 a11 a12 a13 a14 (f a15)) t f]
def z8x(i:Nat)(z:β)(t:N16 β):(nthB (g16_ z) (tg16 z) i).out t=(t.vals z).getD i z:=by
 match i with
 |0|1|2|3|4|5|6|7|8|9|10|11|12|13|14|15=>cases t<;>rfl
 |k+16=>cases t<;>rfl
def z7e(i:Nat)(z:β)(f:β→β)(t:N16 β):((nthB p16_ (tp16 z) i).out f t).vals z=(t.vals z).set i (f ((t.vals z).getD i z)):=by
 match i with
 |0|1|2|3|4|5|6|7|8|9|10|11|12|13|14|15=>cases t<;>rfl
 |k+16=>cases t<;>rfl
def q0j(z:β)(t:N16 β):(t.vals z).length=16:=by cases t<;>rfl
def q34(z:β)(k:Nat):((N16.e:N16 β).vals z).getD k z=z:=by
 match k with
 |0|1|2|3|4|5|6|7|8|9|10|11|12|13|14|15=>rfl
 |k+16=>rfl
end
section
variable {β α:Type}
abbrev G3(α:Type):=N16 (N8 (N8 α))
def G3.get(z:α)(t:G3 α)(i:Nat):α:=(((((t.vals .e).getD (i / 64) .e).vals .e).getD (i / 8 % 8) .e).vals z).getD (i % 8) z
def gg3(f2:N16 (N8 (N8 α))→N8 (N8 α))(f1:N8 (N8 α)→N8 α)(f0:N8 α→α)(t:G3 α):α:=f0 (f1 (f2 t))
def kst(v:α)(_:α):α:=v
def pp3(f2:(N8 (N8 α)→N8 (N8 α))→G3 α→G3 α)(f1:(N8 α→N8 α)→N8 (N8 α)→N8 (N8 α))(f0:(α→α)→N8 α→N8 α)(v:α)(t:G3 α):G3 α:=f2 (f1 (f0 (kst v))) t
def cg3(z:α)(i:Nat):Bx (G3 α→α):=@Bx.rec _ (fun _=>Bx (G3 α→α)) (fun f2=>@Bx.rec _ (fun _=>Bx (G3 α→α)) (fun f1=>@Bx.rec _ (fun _=>Bx (G3 α→α)) (fun f0=>.mk (gg3 f2 f1 f0)) (nthB (g8_ z) (tg8 z) (Nat.mod i 8))) (nthB (g8_ .e) (tg8 .e) (Nat.mod (Nat.div i 8) 8))) (nthB (g16_ .e) (tg16 .e) (Nat.div i 64))
def cp3(z:α)(i:Nat):Bx (α→G3 α→G3 α):=@Bx.rec _ (fun _=>Bx (α→G3 α→G3 α)) (fun f2=>@Bx.rec _ (fun _=>Bx (α→G3 α→G3 α)) (fun f1=>@Bx.rec _ (fun _=>Bx (α→G3 α→G3 α)) (fun f0=>.mk (pp3 f2 f1 f0)) (nthB p8_ (tp8 z) (Nat.mod i 8))) (nthB p8_ (tp8 .e) (Nat.mod (Nat.div i 8) 8))) (nthB p16_ (tp16 .e) (Nat.div i 64))
def cg3_ok(z:α)(i:Nat)(t:G3 α):(cg3 z i).out t=t.get z i:=by
 have h:(cg3 z i).out t=(nthB (g8_ z) (tg8 z) (i % 8)).out ((nthB (g8_ .e) (tg8 .e) (i / 8 % 8)).out ((nthB (g16_ .e) (tg16 .e) (i / 64)).out t)):=by unfold cg3;simp only[show Nat.mod i 8=i % 8 from rfl,show Nat.mod (Nat.div i 8) 8=i / 8 % 8 from rfl,show Nat.div i 64=i / 64 from rfl];generalize nthB (g16_ (.e:N8 (N8 α))) (tg16 .e) (i / 64)=b2;generalize nthB (g8_ (.e:N8 α)) (tg8 .e) (i / 8 % 8)=b1;generalize nthB (g8_ z) (tg8 z) (i % 8)=b0;cases b2;cases b1;cases b0;rfl
 rw[h,z8x,g8_ok,g8_ok];rfl
def cp3_get(z:α)(i j:Nat)(v:α)(t:G3 α):((cp3 z i).out v t).get z j=if i=j∧i<1024 then v else t.get z j:=by
 have h:(cp3 z i).out v t=(nthB p16_ (tp16 .e) (i / 64)).out ((nthB p8_ (tp8 .e) (i / 8 % 8)).out ((nthB p8_ (tp8 z) (i % 8)).out (kst v))) t:=by unfold cp3;simp only[show Nat.mod i 8=i % 8 from rfl,show Nat.mod (Nat.div i 8) 8=i / 8 % 8 from rfl,show Nat.div i 64=i / 64 from rfl];generalize nthB p16_ (tp16 (.e:N8 (N8 α))) (i / 64)=b2;generalize nthB p8_ (tp8 (.e:N8 α)) (i / 8 % 8)=b1;generalize nthB p8_ (tp8 z) (i % 8)=b0;cases b2;cases b1;cases b0;rfl
 rw[h];unfold G3.get;rw[z7e,q4p,q0j];by_cases h2:i / 64=j / 64∧i / 64<16
 ·rw[if_pos h2,p8_ok,q4p,q8o,h2.1];by_cases h1:i / 8 % 8=j / 8 % 8∧i / 8 % 8<8
  ·rw[if_pos h1,p8_ok,q4p,q8o,h1.1];by_cases h0:i % 8=j % 8∧i % 8<8
   ·rw[if_pos h0,if_pos (by omega)];rfl
   ·rw[if_neg h0,if_neg (by omega)]
  ·rw[if_neg h1,if_neg (by omega)]
 ·rw[if_neg h2,if_neg (by omega)]
def q1h(z:α){t:G3 α}(h:¬ d<1024):t.get z d=z:=by
 unfold G3.get;have:(t.vals .e).getD (d / 64) .e=.e:=by rw[yyp,yxx (by rw[q0j];omega)];rfl
 rw[this];have:((N8.e:N8 (N8 α)).vals .e).getD (d / 8 % 8) .e=.e:=by
  have:d / 8 % 8<8:=Nat.mod_lt _ (by omega);generalize d / 8 % 8=k at this
  match k,this with
  |0,_|1,_|2,_|3,_|4,_|5,_|6,_|7,_=>rfl
 rw[this];have:d % 8<8:=Nat.mod_lt _ (by omega);generalize d % 8=k at this
 match k,this with
 |0,_|1,_|2,_|3,_|4,_|5,_|6,_|7,_=>rfl
def G3.ent(z:α)(p:α→Bool)(t:G3 α)(d:Nat):Option (Nat×α):=bif p (t.get z d) then none else some (d,t.get z d)
def G3.toL(z:α)(p:α→Bool)(t:G3 α):List (Nat×α):=(List.range 1024).filterMap (G3.ent z p t)
variable {z:α}{p:α→Bool}{t:G3 α}
def q7s:∀ (ds:List Nat) (d:Nat) (v:α),lk (ds.filterMap (G3.ent z p t)) d=some v→t.get z d=v∧p v=false
 |[],d,v,h=>by simp[lk] at h
 |k::r,d,v,h=>by
  rw[List.filterMap_cons] at h;cases hk:p (t.get z k)
  ·have e:G3.ent z p t k=some (k,t.get z k):=by simp[G3.ent,hk]
   rw[e] at h;simp only[lk] at h;by_cases hd:k=d
   ·rw[if_pos hd] at h;simp only[yya] at h;subst h;subst hd;exact⟨rfl,hk⟩
   ·rw[if_neg hd] at h;exact q7s r d v h
  ·have e:G3.ent z p t k=none:=by simp[G3.ent,hk]
   rw[e] at h;exact q7s r d v h
def q7t(d:Nat):∀ (ds:List Nat),d∈ds→p (t.get z d)=false→lk (ds.filterMap (G3.ent z p t)) d=some (t.get z d)
 |k::r,h,hn=>by
  rw[List.filterMap_cons];by_cases hd:k=d
  ·subst hd;have e:G3.ent z p t k=some (k,t.get z k):=by simp[G3.ent,hn]
   rw[e];simp[lk]
  ·have hr:d∈r:=by
    rcases yym.1 h with h|h
    ·exact absurd h.symm hd
    ·exact h
   cases hk:p (t.get z k)
   ·have e:G3.ent z p t k=some (k,t.get z k):=by simp[G3.ent,hk]
    rw[e];simp only[lk,if_neg hd];exact q7t d r hr hn
   ·have e:G3.ent z p t k=none:=by simp[G3.ent,hk]
    rw[e];exact q7t d r hr hn
def z1o{v:α}(h:lk (t.toL z p) d=some v):t.get z d=v∧p v=false:=q7s _ d v h
def z1p(hz:p z=true)(h:p (t.get z d)=false):lk (t.toL z p) d=some (t.get z d):=by
 refine q7t d _ ?_ h;by_cases hd:d<1024
 ·exact yyr.2 hd
 ·rw[q1h z hd,hz] at h;cases h
def z5y{q:Nat×α}(hz:p z=true)(h:q∈t.toL z p):lk (t.toL z p) q.1=some q.2:=by
 have:t.get z q.1=q.2∧p q.2=false:=by
  unfold G3.toL at h;rw[List.mem_filterMap] at h;obtain⟨k,hk,e⟩:=h;unfold G3.ent at e;cases hn:p (t.get z k)
  ·rw[hn,cond_false] at e;simp only[yya] at e;subst e;exact⟨rfl,hn⟩
  ·rw[hn,cond_true] at e;cases e
 rw[z1p hz (by rw[this.1];exact this.2),this.1]
end
abbrev T2:=N16 (N16 RV)
def T2.get(t:T2)(d:Nat):RV:=((((t.vals .e).getD (d / 16) .e).vals .nil).getD (d % 16) .nil)
def gg2(f1:N16 (N16 RV)→N16 RV)(f0:N16 RV→RV)(t:T2):RV:=f0 (f1 t)
def pp2(f1:(N16 RV→N16 RV)→T2→T2)(f0:(RV→RV)→N16 RV→N16 RV)(v:RV)(t:T2):T2:=f1 (f0 (kst v)) t
def ct(d:Nat):Bx (T2→RV):=@Bx.rec _ (fun _=>Bx (T2→RV)) (fun f1=>@Bx.rec _ (fun _=>Bx (T2→RV)) (fun f0=>.mk (gg2 f1 f0)) (nthB (g16_ .nil) (tg16 .nil) (Nat.mod d 16))) (nthB (g16_ .e) (tg16 .e) (Nat.div d 16))
def pt(d:Nat):Bx (RV→T2→T2):=@Bx.rec _ (fun _=>Bx (RV→T2→T2)) (fun f1=>@Bx.rec _ (fun _=>Bx (RV→T2→T2)) (fun f0=>.mk (pp2 f1 f0)) (nthB p16_ (tp16 .nil) (Nat.mod d 16))) (nthB p16_ (tp16 .e) (Nat.div d 16))
def ct_ok(d:Nat)(t:T2):(ct d).out t=t.get d:=by
 have h:(ct d).out t=(nthB (g16_ .nil) (tg16 .nil) (d % 16)).out ((nthB (g16_ .e) (tg16 .e) (d / 16)).out t):=by unfold ct;simp only[show Nat.mod d 16=d % 16 from rfl,show Nat.div d 16=d / 16 from rfl];generalize nthB (g16_ (.e:N16 RV)) (tg16 .e) (d / 16)=b1;generalize nthB (g16_ RV.nil) (tg16 .nil) (d % 16)=b0;cases b1;cases b0;rfl
 rw[h,z8x,z8x];rfl
def z0d(d e:Nat)(v:RV)(t:T2):T2.get ((pt d).out v t) e=if d=e∧d<256 then v else t.get e:=by
 have h:(pt d).out v t=(nthB p16_ (tp16 .e) (d / 16)).out ((nthB p16_ (tp16 .nil) (d % 16)).out (kst v)) t:=by unfold pt;simp only[show Nat.mod d 16=d % 16 from rfl,show Nat.div d 16=d / 16 from rfl];generalize nthB p16_ (tp16 (.e:N16 RV)) (d / 16)=b1;generalize nthB p16_ (tp16 RV.nil) (d % 16)=b0;cases b1;cases b0;rfl
 rw[h];unfold T2.get;rw[z7e,q4p,q0j];by_cases h1:d / 16=e / 16∧d / 16<16
 ·rw[if_pos h1,z7e,q4p,q0j,h1.1];by_cases h0:d % 16=e % 16∧d % 16<16
  ·rw[if_pos h0,if_pos (by omega)];rfl
  ·rw[if_neg h0,if_neg (by omega)]
 ·rw[if_neg h1,if_neg (by omega)]
inductive Sk
 |e
 |c (v:RV) (r:Sk)
def Sk.nth:Sk→Nat→RV
 |.e,_=>.nil
 |.c v _,0=>v
 |.c _ r,k+1=>r.nth k
inductive Lc
 |k (pos:Nat)
 |c (v:RV)
 |r (q:Nat)
structure Rg where
 g:Nat
 h:Nat
 ε:List (Nat×Lc)
 T:Sk
 t:T2
def isNl:RV→Bool
 |.nil=>true
 |_=>false
def bitB(g d:Nat):Bool:=Nat.beq (Nat.mod (Nat.shiftRight g d) 2) 1
def trg(g:Nat)(t:T2)(d:Nat):RV:=bif bitB g d then t.get d else .nil
def lcv(g h:Nat)(T:Sk)(t:T2):Lc→RV
 |.k pos=>bif Nat.blt pos h then T.nth (h-1-pos) else .nil
 |.c v=>v
 |.r q=>trg g t q
def Rg.get(L:Rg)(d:Nat):RV:=bif Nat.blt d 512 then(match lk L.ε d with
 |some x=>lcv L.g L.h L.T L.t x
 |none=>trg L.g L.t d) else .nil
def Rg.e:Rg:=⟨0,0,[],.e,.e⟩
def q5m{L:Rg}(h:¬ d<512):L.get d=.nil:=by
 unfold Rg.get;have:Nat.blt d 512=false:=by
  cases hb:Nat.blt d 512
  ·rfl
  ·exact absurd (by simpa using hb) h
 rw[this];rfl
def entT(t:Rg)(d:Nat):Option (Nat×RV):=bif isNl (t.get d) then none else some (d,t.get d)
def Rg.toL(t:Rg):List (Nat×RV):=(List.range 512).filterMap (entT t)
def z8e(t:Rg):∀ (ds:List Nat) (d:Nat) (v:RV),lk (ds.filterMap (entT t)) d=some v→t.get d=v∧isNl v=false
 |[],d,v,h=>by simp[lk] at h
 |x::ds,d,v,h=>by
  rw[List.filterMap_cons] at h;unfold entT at h;cases hx:isNl (t.get x)
  ·rw[hx,cond_false] at h;simp only[lk] at h;split at h
   ·rename_i e;subst e;injection h with h;subst h
    exact⟨rfl,hx⟩
   ·exact z8e t ds d v h
  ·rw[hx,cond_true] at h;exact z8e t ds d v h
def ent_lk(t:Rg)(d:Nat):∀ (ds:List Nat),d∈ds→isNl (t.get d)=false→lk (ds.filterMap (entT t)) d=some (t.get d)
 |[],h,_=>by cases h
 |x::ds,h,hn=>by
  rw[List.filterMap_cons];by_cases e:x=d
  ·subst e;simp only[entT,hn,cond_false,lk,if_true]
  ·have ih:=ent_lk t d ds (by rcases yym.1 h with h|h;exact absurd h.symm e;exact h) hn;unfold entT;cases hx:isNl (t.get x)
   ·simp only[cond_false,lk,if_neg e];exact ih
   ·exact ih
def mem_ent(t:Rg)(p:Nat×RV)(ds:List Nat)(h:p∈ds.filterMap (entT t)):t.get p.1=p.2∧isNl p.2=false∧p.1∈ds:=by
 obtain⟨x,hx,he⟩:=List.mem_filterMap.1 h;unfold entT at he;cases hn:isNl (t.get x)
 ·rw[hn,cond_false,yya] at he;subst he;exact⟨rfl,hn,hx⟩
 ·rw[hn] at he;cases he
variable{t:Rg}
def toL_lk{v:RV}(h:lk t.toL d=some v):t.get d=v∧isNl v=false:=z8e t _ d v h
def lk_toL(h:isNl (t.get d)=false):lk t.toL d=some (t.get d):=by
 refine ent_lk t d _ ?_ h;by_cases hd:d<512
 ·exact yyr.2 hd
 ·rw[q5m hd] at h;cases h
def mem_toL{p:Nat×RV}(h:p∈t.toL):lk t.toL p.1=some p.2:=by obtain⟨h1,h2,h3⟩:=mem_ent t p _ h;rw[← h1] at h2;rw[lk_toL h2,h1]
end
end Ox
namespace Ox
open Go Go.RowKit
def evS{α:Type}(P:Program):Sem α→Option α
 |.pure a=>some a
 |.program k=>evS P (k P)
 |_=>none
def j8{α:Type}{P:Program}:∀ {s:Sem α} {v:α},evS P s=some v→∀ w,s.run P w=.ok v w
 |.pure a,v,h,w=>by simp only[evS,yya] at h;subst h;simp[Sem.run]
 |.program k,v,h,w=>by simp only[evS] at h;simp only[Sem.run];exact j8 h w
 |.load ..,v,h,w=>by simp[evS] at h
 |.store ..,v,h,w=>by simp[evS] at h
 |.new ..,v,h,w=>by simp[evS] at h
 |.shape ..,v,h,w=>by simp[evS] at h
 |.freeze ..,v,h,w=>by simp[evS] at h
 |.frozen ..,v,h,w=>by simp[evS] at h
 |.getObj ..,v,h,w=>by simp[evS] at h
 |.setObj ..,v,h,w=>by simp[evS] at h
 |.choose ..,v,h,w=>by simp[evS] at h
 |.sys ..,v,h,w=>by simp[evS] at h
 |.mark ..,v,h,w=>by simp[evS] at h
 |.halt ..,v,h,w=>by simp[evS] at h
inductive RO
 |no
 |blk (ty:TypeId) (k:Option Nat) (n d:Nat) (t:Tr)
 |map (es:List (RV×RV×Nat)) (clk:Nat)
 |iter (m since:Nat) (seen:List Nat) (last:Nat) (bk:Option Nat)
 |loop (st:LoopState) (pe:Option Code) (ps:Array Tmp) (az bd:Code) (n:Nat) (L:Rg)
 |gl (g:Option Nat) (ty:TypeId) (n d:Nat) (t:Tr)
structure Hg where
 t:G3 RO
 F:List (Nat×Rg)
structure RS where
 L:List (Nat×RV)
 H:Hg
 nx:Nat
def mapR(L:List (Nat×RV)):List (Nat×AV):=L.map fun p=>(p.1,.raw p.2)
noncomputable def mapT(t:Rg):List (Nat×AV):=mapR t.toL
noncomputable def RO.toHO:RO→HO
 |.no=>.fr 0 []
 |.blk ty k n _ t=>.raw ty k n t.get
 |.map es clk=>.rmap es clk
 |.iter m since seen last bk=>.riter m since seen last bk
 |.loop st pe ps az bd n L=>.loop st pe ps az bd n (mapT L)
 |.gl g ty n _ t=>.gl g ty n t.get
def isNo:RO→Bool
 |.no=>true
 |_=>false
noncomputable def mapF:List (Nat×Rg)→List (Nat×HO)
 |[]=>[]
 |p::r=>(p.1,.fr r.length (mapT p.2))::mapF r
noncomputable def treeH(t:G3 RO):List (Nat×HO):=(G3.toL .no isNo t).map fun p=>(p.1,p.2.toHO)
noncomputable def mapH(H:Hg):List (Nat×HO):=treeH H.t++mapF H.F
noncomputable def RS.toS(s:RS):S:=⟨mapR s.L,mapH s.H,s.nx⟩
structure FS where
 L:Rg
 H:Hg
 nx:Nat
noncomputable def FS.toS(s:FS):S:=⟨mapT s.L,mapH s.H,s.nx⟩
def z2e{α β:Type}(f:α→β):∀ {L:List (Nat×α)} {d:Nat},lk (L.map fun p=>(p.1,f p.2)) d=(lk L d).map f
 |[],_=>rfl
 |(k,v)::r,d=>by
  simp only[yy2,lk];split
  ·rfl
  ·exact z2e f
def q5k{L:List (Nat×RV)}:lk (mapR L) d=(lk L d).map .raw:=z2e _
noncomputable def lq{α:Type}(l:List (Nat×α))(n:Nat):Option α:=@List.rec _ (fun _=>Option α) none (fun p _ ih=>bif Nat.beq p.1 n then some p.2 else ih) l
def lq_eq{α:Type}:∀ {L:List (Nat×α)} {n:Nat},lq L n=lk L n
 |[],_=>rfl
 |(k,v)::r,n=>by
  show(bif Nat.beq k n then some v else lq r n)=lk ((k,v)::r) n;rw[lk];cases h:Nat.beq k n
  ·have:k≠n:=fun e=>by subst e;simp at h
   rw[if_neg this,cond_false];exact lq_eq
  ·rw[if_pos (yyg h)];rfl
inductive Cha
 |mk (f:G3 RO→RO)
inductive Chp
 |mk (f:RO→G3 RO→G3 RO)
noncomputable section
def Cha.ap(c:Cha):G3 RO→RO:=Cha.rec (motive:=fun _=>G3 RO→RO) (fun f=>f) c
def Chp.ap(c:Chp):RO→G3 RO→G3 RO:=Chp.rec (motive:=fun _=>RO→G3 RO→G3 RO) (fun f=>f) c
def hca(d:Nat):Cha:=@Bx.rec _ (fun _=>Cha) (fun f=>Cha.mk f) (cg3 (.no:RO) d)
def hcp(d:Nat):Chp:=@Bx.rec _ (fun _=>Chp) (fun f=>Chp.mk f) (cp3 (.no:RO) d)
def Hg.get(H:Hg)(l:Nat):RO:=G3.get .no H.t l
def hqO(o:RO):Option RO:=@RO.rec (fun _=>Option RO) none (fun ty k n d t=>some (.blk ty k n d t)) (fun es c=>some (.map es c)) (fun m s n l b=>some (.iter m s n l b)) (fun st pe ps az bd n L=>some (.loop st pe ps az bd n L)) (fun g ty n d t=>some (.gl g ty n d t)) o
def hq(H:Hg)(l:Nat):Option RO:=hqO ((hca l).ap H.t)
def updR(H:Hg)(l:Nat)(o:RO):Hg:=⟨(hcp l).ap o H.t,H.F⟩
def hasF(l:Nat)(F:List (Nat×Rg)):Bool:=@List.rec _ (fun _=>Bool) false (fun p _ ih=>@Bool.rec (fun _=>Bool) ih true (Nat.beq p.1 l)) F
def fltF(l:Nat)(F:List (Nat×Rg)):List (Nat×Rg):=@Bool.rec (fun _=>List (Nat×Rg)) F [] (hasF l F)
def delR(H:Hg)(l:Nat):Hg:=⟨(hcp l).ap .no H.t,fltF l H.F⟩
end
def q51(d:Nat)(t:G3 RO):(hca d).ap t=G3.get .no t d:=by
 have h:(hca d).ap t=(cg3 .no d).out t:=by unfold hca;generalize cg3 (RO.no) d=b;cases b;rfl
 rw[h,cg3_ok]
def q1l(d e:Nat)(v:RO)(t:G3 RO):G3.get .no ((hcp d).ap v t) e=if d=e∧d<1024 then v else G3.get .no t e:=by
 have h:(hcp d).ap v t=(cp3 .no d).out v t:=by unfold hcp;generalize cp3 (RO.no) d=b;cases b;rfl
 rw[h,cp3_get]
def hqO_some{o q:RO}(h:hqO o=some q):q=o∧isNo o=false:=by cases o<;>first|(cases h;done)|(injection h with h;exact⟨h.symm,rfl⟩)
variable{o:RO}
def hqO_of(h:isNo o=false):hqO o=some o:=by cases o<;>first|rfl|cases h
variable{H:Hg}
def r0(h:hq H l=some o):H.get l=o∧isNo o=false:=by unfold hq at h;rw[q51] at h;obtain⟨e1,e2⟩:=hqO_some h;exact⟨e1.symm,e1▸e2⟩
def q0y(h:H.get l=o)(hn:isNo o=false):hq H l=some o:=by unfold hq;rw[q51];show hqO (H.get l)=_;rw[h];exact hqO_of hn
def hq_none(h:hq H l=none):isNo (H.get l)=true:=by
 cases hn:isNo (H.get l)
 ·rw[q0y rfl hn] at h;cases h
 ·rfl
def z5h(h:hq H l=some o):l<1024:=by obtain⟨e1,e2⟩:=r0 h;refine Nat.lt_of_not_le fun hn=>?_;have:H.get l=.no:=q1h _ (by omega);rw[this] at e1;subst e1;cases e2
def q6y{α:Type}:∀ {a b:List (Nat×α)} {l:Nat},lk (a++b) l=match lk a l with|some x=>some x|none=>lk b l
 |[],_,_=>rfl
 |(k,v)::r,b,l=>by
  show(if k=l then some v else lk (r++b) l)=match (if k=l then some v else lk r l) with|some x=>some x|none=>lk b l
  by_cases h:k=l
  ·rw[if_pos h,if_pos h]
  ·rw[if_neg h,if_neg h];exact q6y
def lk_tree:lk (treeH H.t) l=(hq H l).map RO.toHO:=by
 unfold treeH;rw[z2e];cases hh:lk (G3.toL .no isNo H.t) l with
 |none=>
  cases hg:hq H l with
  |none=>rfl
  |some o=>obtain⟨e1,e2⟩:=r0 hg;rw[z1p rfl (by show isNo (H.get l)=false;rw[e1];exact e2)] at hh;cases hh
 |some o=>obtain⟨e1,e2⟩:=z1o hh;rw[q0y (H:=H) e1 e2]
def y8:lk (mapH H) l=match hq H l with|some o=>some o.toHO|none=>lk (mapF H.F) l:=by unfold mapH;rw[q6y,lk_tree];cases hq H l<;>rfl
def lkH(h:hq H l=some o):lk (mapH H) l=some o.toHO:=by rw[y8,h]
def z8c:∀ {F:List (Nat×Rg)} {l:Nat} {q:HO},lk (mapF F) l=some q→∃ i L,q=.fr i (mapT L)∧i<F.length
 |[],_,_,h=>by cases h
 |p::r,l,q,h=>by
  unfold mapF lk at h;by_cases hp:p.1=l
  ·rw[if_pos hp,yya] at h;exact⟨r.length,p.2,h.symm,by simp⟩
  ·rw[if_neg hp] at h;obtain⟨i,L,e1,e2⟩:=z8c h;exact⟨i,L,e1,by simp;omega⟩
def z2i(hl:l<1024)(hn:isNo o=false):hq (updR H l o) l=some o:=by refine q0y ?_ hn;unfold Hg.get updR;rw[q1l,if_pos ⟨rfl,hl⟩]
def z8t(h:l≠m):hq (updR H l o) m=hq H m:=by
 have:(updR H l o).get m=H.get m:=by unfold Hg.get updR;rw[q1l,if_neg fun q=>h q.1]
 unfold hq;rw[q51,q51];exact congrArg hqO this
variable{q:HO}
def q9y(hn:isNo o=false)(h:lk (mapH (updR H l o)) m=some q):(l=m∧q=o.toHO)∨(lk (mapH H) m=some q∧(l≠m∨1024≤l)):=by
 by_cases hl:l=m
 ·subst hl;by_cases hb:l<1024
  ·rw[y8,z2i hb hn,yya] at h;exact .inl ⟨rfl,h.symm⟩
  ·have:(updR H l o).get l=H.get l:=by unfold Hg.get updR;rw[q1l,if_neg (fun q=>hb q.2)]
   have e:hq (updR H l o) l=hq H l:=by unfold hq;rw[q51,q51];exact congrArg hqO this
   rw[y8,e] at h;exact .inr ⟨by rw[y8];exact h,.inr (by omega)⟩
 ·rw[y8,z8t hl] at h;exact .inr ⟨by rw[y8];exact h,.inl hl⟩
def z2k{F:List (Nat×Rg)}(h:lk (mapF (fltF l F)) m=some q):l≠m∧lk (mapF F) m=some q:=by
 have no:∀ F:List (Nat×Rg),hasF l F=false→∀ q,lk (mapF F) l=some q→False:=fun F=>by
  induction F with
  |nil=>intro _ q h;cases h
  |cons p r ih=>
   intro hf q h;have ha:(@Bool.rec (fun _=>Bool) (hasF l r) true (Nat.beq p.1 l):Bool)=false:=hf;unfold mapF lk at h;cases hb:Nat.beq p.1 l
   ·rw[hb] at ha;have:p.1≠l:=fun e=>by subst e;simp at hb
    rw[if_neg this] at h;exact ih ha q h
   ·rw[hb] at ha;cases ha
 unfold fltF at h;cases hf:hasF l F
 ·rw[hf] at h;have h':lk (mapF F) m=some q:=h;exact⟨fun e=>by subst e;exact no F hf q h',h'⟩
 ·rw[hf] at h;have h':lk (mapF []) m=some q:=h;cases h'
def z9j(h:lk (mapH (delR H l)) m=some q):l≠m∧lk (mapH H) m=some q:=by
 have hg:∀ k,hq (delR H l) k=if l=k then none else hq H k:=fun k=>by
  unfold hq delR;simp only;rw[q51,q51,q1l];by_cases hk:l=k
  ·subst hk;rw[if_pos rfl];by_cases hb:l<1024
   ·rw[if_pos ⟨rfl,hb⟩];rfl
   ·rw[if_neg fun q=>hb q.2,q1h _ hb];rfl
  ·rw[if_neg fun q=>hk q.1,if_neg hk]
 rw[y8,hg] at h;by_cases hk:l=m
 ·rw[if_pos hk] at h;exact absurd hk (z2k h).1
 ·rw[if_neg hk] at h;refine⟨hk,?_⟩;rw[y8];cases ho:hq H m with
  |some o=>rw[ho] at h;exact h
  |none=>rw[ho] at h;exact(z2k h).2
variable{t:Rg}
def x7{v:RV}(h:t.get d=v)(hn:isNl v=false):lk (mapT t) d=some (.raw v):=by subst h;unfold mapT;rw[q5k,lk_toL hn];rfl
def p5{x:AV}(h:lk (mapT t) d=some x):x=.raw (t.get d)∧isNl (t.get d)=false:=by
 unfold mapT at h;rw[q5k] at h;cases hl:lk t.toL d with
 |none=>rw[hl] at h;cases h
 |some v=>rw[hl] at h;simp only[yxt,yya] at h;obtain⟨e1,e2⟩:=toL_lk hl;subst h;rw[e1];exact⟨rfl,e2⟩
def q6e{p:Nat×AV}(h:p∈mapT t):lk (mapT t) p.1=some p.2:=by unfold mapT mapR at h;obtain⟨q,h1,rfl⟩:=yxc.1 h;have:=mem_toL h1;unfold mapT;rw[q5k,this];rfl
attribute [irreducible] mapH hq updR delR mapT
section
variable {X:Ctx}{s:RS}{M:Mem}{ρ:Env}{a:Act}{w:World}
def z6w(h2:REG X M ρ s.toS a){v:RV}(h:lq s.L d=some v):v.bd s.nx∧a.tmps.getD d Go.undef=v.cv ρ:=by
 have h':lk (mapR s.L) d=some (.raw v):=by rw[q5k,← lq_eq,h];rfl
 have:=h2.reg d _ h';simp only[AV.bd,AV.rv] at this;exact this
def q0c(h1:SAT X M ρ s.toS w)(h:hq s.H l=some o):l<s.nx∧o.toHO.bd s.nx∧o.toHO.ok X M ρ l w:=h1.own l _ (lkH h)
noncomputable def glF(g:Nat)(H:Hg):Nat→Option Nat
 |0=>none
 |k+1=>match hq H k with
  |some (.gl (some g') _ _ _ _)=>bif Nat.beq g g' then some k else glF g H k
  |_=>glF g H k
noncomputable def opg(s:RS)(g:Nat):Option RV:=
 match glF g s.H 8 with
 |some l=>(match hq s.H l with
  |some (.gl (some g') _ _ _ _)=>bif Nat.beq g g' then some (.p l 0) else none
  |_=>none)
 |none=>none
def opg_ok(h1:SAT X M ρ s.toS w){g:Nat}{v:RV}(h:opg s g=some v):v.bd s.nx∧a.eval (.global g)=v.cv ρ:=by
 unfold opg at h;split at h
 ·split at h
  ·rename_i l _ _ g' ty n d t hl;cases hg:Nat.beq g g'
   ·rw[hg] at h;cases h
   ·rw[hg,cond_true,yya] at h;subst h;have:=yyg hg;subst this;obtain⟨e1,_,e2⟩:=q0c h1 hl;simp only[RO.toHO,HO.ok] at e2;exact⟨e1,by simp only[Act.eval,RV.cv,e2.1 _ rfl]⟩
  ·cases h
 ·cases h
def RV.ofC:Value→Option RV
 |.int k n=>some (.i k n)
 |.bool x=>some (.b x)
 |.pointer none=>some .np
 |.slice none 0 0=>some .ns
 |.nilFunc=>some .fz
 |.map none=>some .nm
 |_=>none
def RV.ofL:List Value→Option RV
 |[]=>some .nil
 |v::r=>match RV.ofC v with
  |some a=>(match RV.ofL r with
   |some q=>some (.cons a q)
   |none=>none)
  |none=>none
def RV.ofV:Value→Option RV
 |.agg cs=>match RV.ofL cs.toList with
  |some r=>some (.g r)
  |none=>none
 |.tuple cs=>match RV.ofL cs.toList with
  |some r=>some (.t r)
  |none=>none
 |v=>RV.ofC v
variable{r:RV}
def z1b(h:RV.ofC v=some r)(ρ:Env)(n:Nat):r.cv ρ=v∧r.bd n:=by unfold RV.ofC at h;split at h<;>simp only[yya,reduceCtorEq] at h<;>subst h<;>exact⟨rfl,trivial⟩
def q7k:∀ {l:List Value} {r:RV},RV.ofL l=some r→∀ (ρ:Env) (n:Nat),r.cl ρ=l∧r.bd n
 |[],r,h,ρ,n=>by simp only[RV.ofL,yya] at h;subst h;exact⟨rfl,trivial⟩
 |v::l,r,h,ρ,n=>by
  simp only[RV.ofL] at h;split at h
  ·rename_i a ha;split at h
   ·rename_i b hb;simp only[yya] at h;subst h;have e1:=z1b ha ρ n;have e2:=q7k hb ρ n;exact⟨by rw[RV.cl,e1.1,e2.1],e1.2,e2.2⟩
   ·cases h
  ·cases h
def q0s(h:RV.ofV v=some r)(ρ:Env)(n:Nat):r.cv ρ=v∧r.bd n:=by
 unfold RV.ofV at h;split at h
 ·split at h
  ·rename_i h2;simp only[yya] at h;subst h;have e:=q7k h2 ρ n;exact⟨by rw[RV.cv,e.1],e.2⟩
  ·cases h
 ·split at h
  ·rename_i h2;simp only[yya] at h;subst h;have e:=q7k h2 ρ n;exact⟨by rw[RV.cv,e.1],e.2⟩
  ·cases h
 ·exact z1b h ρ n
def RV.scC:RV→Option Value
 |.i k n=>some (.int k n)
 |.b x=>some (.bool x)
 |.np=>some (.pointer none)
 |.ns=>some (.slice none 0 0)
 |.fz=>some .nilFunc
 |.nm=>some (.map none)
 |_=>none
def RV.scL:RV→Option (List Value)
 |.nil=>some []
 |.cons a r=>match a.scC with
  |some v=>(match r.scL with
   |some l=>some (v::l)
   |none=>none)
  |none=>none
 |_=>none
def RV.sc:RV→Option Value
 |.g c=>match c.scL with
  |some l=>some (.agg l.toArray)
  |none=>none
 |r=>r.scC
def z1a(h:r.scC=some v)(ρ:Env):r.cv ρ=v:=by cases r<;>simp only[RV.scC,yya,reduceCtorEq] at h<;>subst h<;>rfl
def z09:∀ {r:RV} {l:List Value},r.scL=some l→∀ ρ:Env,r.cl ρ=l
 |.nil,l,h,ρ=>by simp only[RV.scL,yya] at h;subst h;rfl
 |.cons a r,l,h,ρ=>by
  simp only[RV.scL] at h;split at h
  ·rename_i v hv;split at h
   ·rename_i l' hl;simp only[yya] at h;subst h;rw[RV.cl,z1a hv ρ,z09 hl ρ]
   ·cases h
  ·cases h
 |.i ..,_,h,_|.b _,_,h,_|.np,_,h,_|.ns,_,h,_|.fz,_,h,_|.nm,_,h,_|.u,_,h,_|.p ..,_,h,_|.s ..,_,h,_|.m _,_,h,_|.it _,_,h,_|.y _,_,h,_|.o ..,_,h,_|.f ..,_,h,_|.g _,_,h,_|.t _,_,h,_=>by simp[RV.scL] at h
def q01(h:r.sc=some v)(ρ:Env):r.cv ρ=v:=by
 unfold RV.sc at h;split at h
 ·split at h
  ·rename_i hl;simp only[yya] at h;subst h;rw[RV.cv,z09 hl ρ]
  ·cases h
 ·exact z1a h ρ
noncomputable def opv(L:List (Nat×RV)):Operand→Option RV
 |.tmp t=>lq L t
 |.const v=>RV.ofV v
 |.func f=>some (.f f .nil .nil)
 |.global _=>none
def j5(h2:REG X M ρ s.toS a){v:RV}(h:opv s.L x=some v):v.bd s.nx∧a.eval x=v.cv ρ:=by
 cases x with
 |tmp t=>exact z6w h2 h
 |const c=>have:=q0s h ρ s.nx;exact⟨this.2,this.1.symm⟩
 |func f=>simp only[opv,yya] at h;subst h;exact⟨⟨trivial,trivial⟩,rfl⟩
 |global _=>simp[opv] at h
noncomputable def opvs(L:List (Nat×RV)):List Operand→Option RV
 |[]=>some .nil
 |o::r=>match opv L o with
  |some a=>(match opvs L r with
   |some b=>some (.cons a b)
   |none=>none)
  |none=>none
def q31(h2:REG X M ρ s.toS a):∀ {l:List Operand} {v:RV},opvs s.L l=some v→v.bd s.nx∧l.map a.eval=v.cl ρ
 |[],v,h=>by simp only[opvs,yya] at h;subst h;exact⟨trivial,rfl⟩
 |o::l,v,h=>by
  simp only[opvs] at h;split at h
  ·rename_i x hx;split at h
   ·rename_i y hy;simp only[yya] at h;subst h;have e1:=j5 h2 hx;have e2:=q31 h2 hy;exact⟨⟨e1.1,e2.1⟩,by rw[yy2,e1.2,e2.2,RV.cl]⟩
   ·cases h
  ·cases h
end
end Ox
namespace Ox
noncomputable section
open Go Go.RowKit
variable {X:Ctx}{s:RS}{M:Mem}{ρ:Env}{a:Act}{w w1:World}{P:Program}
def RV.drp:RV→Nat→RV
 |r,0=>r
 |.cons _ r,k+1=>r.drp k
 |_,_+1=>.nil
def RV.tk:RV→Nat→RV
 |.cons a r,k+1=>.cons a (r.tk k)
 |_,_=>.nil
def q7l(ρ:Env):∀ (k:Nat) (r:RV),(r.drp k).cl ρ=(r.cl ρ).drop k
 |0,r=>by cases r<;>rfl
 |k+1,.cons a r=>by simp only[RV.drp,RV.cl,List.drop_succ_cons];exact q7l ρ k r
 |k+1,.i ..|k+1,.b _|k+1,.np|k+1,.ns|k+1,.fz|k+1,.nm|k+1,.u|k+1,.nil|k+1,.p ..|k+1,.s ..|k+1,.m _|k+1,.it _|k+1,.y _|k+1,.o ..|k+1,.f ..|k+1,.g _|k+1,.t _=>rfl
def q43(ρ:Env):∀ (k:Nat) (r:RV),(r.tk k).cl ρ=(r.cl ρ).take k
 |0,r=>by cases r<;>simp[RV.tk,RV.cl]
 |k+1,.cons a r=>by simp only[RV.tk,RV.cl,List.take_succ_cons];rw[q43 ρ k r]
 |k+1,.i ..|k+1,.b _|k+1,.np|k+1,.ns|k+1,.fz|k+1,.nm|k+1,.u|k+1,.nil|k+1,.p ..|k+1,.s ..|k+1,.m _|k+1,.it _|k+1,.y _|k+1,.o ..|k+1,.f ..|k+1,.g _|k+1,.t _=>rfl
def q7m{n:Nat}:∀ {k:Nat} {r:RV},r.bd n→(r.drp k).bd n
 |0,r,h=>by cases r<;>exact h
 |k+1,.cons a r,h=>by simp only[RV.drp];exact q7m h.2
 |k+1,.i ..,_|k+1,.b _,_|k+1,.np,_|k+1,.ns,_|k+1,.fz,_|k+1,.nm,_|k+1,.u,_|k+1,.nil,_|k+1,.p ..,_|k+1,.s ..,_|k+1,.m _,_|k+1,.it _,_|k+1,.y _,_|k+1,.o ..,_|k+1,.f ..,_|k+1,.g _,_|k+1,.t _,_=>trivial
def q6k{n:Nat}:∀ {k:Nat} {r:RV},r.bd n→(r.tk k).bd n
 |0,r,h=>by cases r<;>exact trivial
 |k+1,.cons a r,h=>⟨h.1,q6k h.2⟩
 |k+1,.i ..,_|k+1,.b _,_|k+1,.np,_|k+1,.ns,_|k+1,.fz,_|k+1,.nm,_|k+1,.u,_|k+1,.nil,_|k+1,.p ..,_|k+1,.s ..,_|k+1,.m _,_|k+1,.it _,_|k+1,.y _,_|k+1,.o ..,_|k+1,.f ..,_|k+1,.g _,_|k+1,.t _,_=>trivial
def partR(P:Program)(t:TypeId)(cs:RV)(off:Nat):Option RV:=
 match evS P (isAgg t) with
 |some true=>(match evS P (Go.sizeOf t) with
  |some n=>bif Nat.ble (off+n) cs.len then some (.g ((cs.drp off).tk n)) else none
  |none=>none)
 |some false=>bif Nat.blt off cs.len then some (cs.nth off) else none
 |none=>none
variable{v x:RV}
def z3h{cs:RV}(h:partR P t cs off=some v)(hb:cs.bd n):v.bd n∧∀ w,(part t (cs.cl ρ).toArray off).run P w=.ok (v.cv ρ) w:=by
 unfold partR at h;split at h
 ·rename_i hA;split at h
  ·rename_i k hk;cases he:Nat.ble (off+k) cs.len
   ·rw[he] at h;cases h
   ·rw[he,cond_true,yya] at h;subst h;refine⟨q6k (q7m hb),fun w=>?_⟩;unfold part;simp only[yye,j8 hA,yyb,if_true,j8 hk,yyf,RV.cv,q43,q7l];congr 2;apply Array.ext';simp[List.extract_eq_drop_take]
  ·cases h
 ·rename_i hA;cases ha:Nat.blt off cs.len
  ·rw[ha] at h;cases h
  ·rw[ha,cond_true,yya] at h;subst h;have hd:off<cs.len:=by simpa using ha
   refine⟨m8 hb,fun w=>?_⟩;unfold part;simp only[yye,j8 hA,yyb,yyt,if_false,yxm,r9 ρ hd,yyf]
 ·cases h
def ldT(P:Program)(t:TypeId)(n:Nat)(tr:Tr)(off:Nat):Option RV:=
 match evS P (isAgg t) with
 |some true=>(match evS P (Go.sizeOf t) with
  |some k=>bif Nat.ble (off+k) n then some (.g (tr.cut k off)) else none
  |none=>none)
 |some false=>bif Nat.blt off n then some (tr.get off) else none
 |none=>none
noncomputable def ldR(P:Program)(H:Hg)(t:TypeId):RV→Option RV
 |.p l off=>match hq H l with
  |some (.blk _ _ n _ tr)=>ldT P t n tr off
  |some (.gl _ _ n _ tr)=>ldT P t n tr off
  |_=>none
 |_=>none
variable{tr:Tr}
def z9l{c:Nat→RV}(hc:∀ i,i<n→cs[i]?=some ((c i).cv ρ)∧((c i).cv ρ).oneCell'=true)(he:c=tr.get){k off:Nat}(h:off+k≤n) :
  (tr.cut k off).cl ρ=(cs.toList.drop off).take k:=by
 subst he;apply List.ext_getElem?;intro j;by_cases hj:j<k
 ·rw[r9 ρ (by rw[t7];exact hj),q8g tr hj,yxl,if_pos hj,List.getElem?_drop,yxz,(hc (off+j) (by omega)).1]
 ·rw[yxx (by rw[j0,t7];omega),yxx (by simp;omega)]
def ldT_ok{n off b m:Nat}{fz:Nat×Nat}(h:ldT P t n tr off=some v)(hg:n≤cs.size)(hc:∀ i,i<n→cs[i]?=some ((tr.get i).cv ρ)∧((tr.get i).cv ρ).oneCell'=true)
  (he:∀ i,i<n→(tr.get i).bd m):v.bd m∧∀ w1:World,w1.heap[b]?=some (.cells cs ty fz)→(Instr.loadAt t (.pointer (some ⟨b,off,none⟩))).run P w1=.ok (v.cv ρ) w1:=by
 unfold ldT at h;split at h
 ·rename_i hA;split at h
  ·rename_i k hk;cases hb:Nat.ble (off+k) n
   ·rw[hb] at h;cases h
   ·rw[hb,cond_true,yya] at h;subst h;have hd:off+k≤n:=yyd hb;refine⟨q41 fun j _ hj=>he j (by omega),fun w1 hw=>?_⟩;simp only[Instr.loadAt,Instr.sureAddr,RV.cv,yye,yyf,yyb];unfold loadVar;simp only[yye,j8 hA,yyb,if_true,j8 hk,q0p hw (show off+k≤cs.size by omega),yyf,z9l hc rfl hd]
  ·cases h
 ·rename_i hA;cases ha:Nat.blt off n
  ·rw[ha] at h;cases h
  ·rw[ha,cond_true,yya] at h;subst h;have ha:off<n:=by simpa using ha
   refine⟨he off ha,fun w1 hw=>?_⟩;simp only[Instr.loadAt,Instr.sureAddr,RV.cv,yye,yyf,yyb];unfold loadVar;simp only[yye,j8 hA,yyb,yyt,if_false];simp[x4 hw,(hc off ha).1]
 ·cases h
def ldR_ok(h1:SAT X M ρ s.toS w)(h:ldR P s.H t x=some v):v.bd s.nx∧∀ w1,Below w.heap.size w w1→(Instr.loadAt t (x.cv ρ)).run P w1=.ok (v.cv ρ) w1:=by
 unfold ldR at h;split at h
 ·rename_i l off;split at h
  ·rename_i ty kk n d tr hl;obtain⟨hh,hb,hd⟩:=q0c h1 hl;simp only[RO.toHO,HO.ok,HO.bd] at hd hb;obtain⟨hg,cs,ha,he,hc,_⟩:=hd;obtain⟨e1,e2⟩:=ldT_ok (b:=ρ.blk l) (ty:=ty) (fz:=(0,0)) h he hc hb;exact⟨e1,fun w1 hw=>e2 w1 (by rw[hw.block _ (yyj.1 ha).1];exact ha)⟩
  ·rename_i g ty n d tr hl;obtain⟨hh,hb,hd⟩:=q0c h1 hl;simp only[RO.toHO,HO.ok,HO.bd] at hd hb;obtain⟨_,cs,ty,fz,hM,he,hc⟩:=hd;have ha:=h1.mem _ _ hM;obtain⟨e1,e2⟩:=ldT_ok (b:=ρ.blk l) (ty:=ty) (fz:=fz) h he hc hb;exact⟨e1,fun w1 hw=>e2 w1 (by rw[hw.block _ (yyj.1 ha).1];exact ha)⟩
  ·cases h
 ·cases h
def faR(P:Program)(t:TypeId)(x:RV)(i:Nat):Option RV:=
 match x with
 |.p l off=>match evS P (underlying t) with
  |some (.struct fs)=>(match fs[i]? with
   |some f=>(match evS P (Go.sizeOf f.type) with
    |some (_+1)=>some (.p l (off+f.offset))
    |_=>none)
   |none=>none)
  |_=>none
 |_=>none
def z36{i n:Nat}(h:faR P t x i=some v)(hb:x.bd n):v.bd n∧∀ w,(Instr.fieldAt t (x.cv ρ) i).run P w=.ok (v.cv ρ) w:=by
 unfold faR at h;split at h
 ·split at h
  ·rename_i hU;split at h
   ·rename_i hf;split at h
    ·rename_i hs;simp only[yya] at h;subst h;refine⟨hb,fun w=>?_⟩;unfold Instr.fieldAt;simp only[yye,j8 hU,yyb,hf,RV.cv,Instr.sureAddr,yyf,fieldPlace,j8 hs,z6];rw[if_neg (Nat.succ_ne_zero _)];rfl
    ·cases h
   ·cases h
  ·cases h
 ·cases h
def slB:RV→Option (Nat×Nat×Nat)
 |.s l off n _=>some (l,off,n)
 |.o l e lo hi _ _=>bif Nat.blt lo hi then some (l,lo*e,hi-lo) else none
 |_=>none
noncomputable def okO(H:Hg):RV→Bool
 |.o l e _ hi _ _=>match hq H l with
  |some (.blk _ (some e') n _ _)=>Nat.beq e e'&&Nat.ble (hi*e) n&&Nat.blt 0 e
  |_=>false
 |_=>true
def z27(h1:SAT X M ρ s.toS w)(h:slB x=some (l,off,n))(ho:okO s.H x=true):(∀ m,x.bd m→l<m)∧∃ c,x.cv ρ=.slice (some ⟨ρ.blk l,off,none⟩) n c:=by
 unfold slB at h;split at h
 ·simp only[yya,yyl] at h;obtain⟨rfl,rfl,rfl⟩:=h;exact⟨fun _ h=>h,_,rfl⟩
 ·rename_i l' e lo hi full z;cases ha:Nat.blt lo hi
  ·rw[ha] at h;cases h
  ·rw[ha,cond_true,yya,yyl,yyl] at h;obtain⟨rfl,rfl,rfl⟩:=h;have hd:lo<hi:=by simpa using ha
   refine⟨fun _ h=>h,(if full then hi else(ρ.sv l').capN)-lo,?_⟩;rw[RV.cv,if_neg];simp only[okO] at ho;split at ho
   ·rename_i hl;simp only[yyc,Nat.beq_eq,Nat.blt_eq] at ho;obtain⟨⟨rfl,h3⟩,h4⟩:=ho;have h3:=yyd h3;obtain⟨_,_,hb⟩:=q0c h1 hl;simp only[RO.toHO,HO.ok] at hb;obtain⟨_,cs,_,_,_,m,cap,he,hn,_,hg,_⟩:=hb;have:hi≤cap:=by
     have:hi*e≤m*e:=by rw[← hn];exact h3
     exact Nat.le_trans (Nat.le_of_mul_le_mul_right this h4) hg
    split
    ·omega
    ·rw[he];simp only[Value.capN];omega
   ·cases ho
 ·cases h
noncomputable def iaR(P:Program)(H:Hg)(t:TypeId)(x i:RV):Option RV:=
 match i with
 |.i _ k=>match evS P (underlying t) with
  |some (.array len elem)=>(match x with
   |.p l off=>(match evS P (Go.sizeOf elem) with
    |some z=>bif decide (0≤k)&&decide (k<len) then some (.p l (off+k.toNat*z)) else none
    |none=>none)
   |_=>none)
  |some (.slice elem)=>(match slB x with
   |some (l,off,n)=>(match evS P (Go.sizeOf elem) with
    |some z=>bif (decide (0≤k)&&decide (k<n))&&okO H x then some (.p l (off+k.toNat*z)) else none
    |none=>none)
   |none=>none)
  |_=>none
 |_=>none
def iaR_ok(h1:SAT X M ρ s.toS w){x i v:RV}(h:iaR P s.H t x i=some v)(hb:x.bd n):v.bd n∧∀ w,(Instr.indexAt t (x.cv ρ) (i.cv ρ)).run P w=.ok (v.cv ρ) w:=by
 unfold iaR at h;split at h
 ·rename_i kk k;split at h
  ·rename_i len elem hU;split at h
   ·rename_i l off;split at h
    ·rename_i z hz;cases hc:decide (0≤k)&&decide (k<(len:Int))
     ·rw[hc] at h;cases h
     ·rw[hc,cond_true,yya] at h;subst h;simp only[yyc,yyq] at hc;refine⟨hb,fun w=>?_⟩;unfold Instr.indexAt;simp only[RV.cv,asIntOf,yye,yyf,yyb,j8 hU,Instr.sureAddr];rw[if_pos hc];simp[j8 hz,z6]
    ·cases h
   ·cases h
  ·rename_i elem hU;split at h
   ·rename_i l off m ha;split at h
    ·rename_i z hz;cases hc:(decide (0≤k)&&decide (k<(m:Int)))&&okO s.H x
     ·rw[hc] at h;cases h
     ·rw[hc,cond_true,yya] at h;subst h;simp only[yyc,yyq] at hc;obtain⟨e1,c,e2⟩:=z27 h1 ha hc.2;refine⟨e1 _ hb,fun w=>?_⟩;unfold Instr.indexAt;rw[e2];simp only[RV.cv,asIntOf,yye,yyf,yyb,j8 hU];rw[if_pos hc.1];simp[j8 hz,z6]
    ·cases h
   ·cases h
  ·cases h
 ·cases h
end
end Ox
namespace Ox
noncomputable section
open Go Go.RowKit
variable {X:Ctx}{s:RS}{M:Mem}{ρ:Env}{a:Act}{w w1:World}{P:Program}
def bN(d:Nat):Option RV→Option Nat
 |none=>some d
 |some (.i _ k)=>bif decide (0≤k) then some k.toNat else none
 |_=>none
def bN_ok{x:Option RV}(h:bN d x=some n):(x=none∧n=d)∨∃ k v,x=some (.i k v)∧0≤v∧n=v.toNat:=by
 unfold bN at h;split at h
 ·simp only[yya] at h;exact .inl ⟨rfl,h.symm⟩
 ·rename_i k v;cases hd:decide (0≤v)
  ·rw[hd] at h;cases h
  ·rw[hd,cond_true,yya] at h;exact .inr ⟨k,v,rfl,by simpa using hd,h.symm⟩
 ·cases h
def mxOk:Option RV→Option RV→Bool
 |none,some _=>false
 |_,_=>true
variable{lo hi mx:Option RV}
def f9{fl:Bool}{x b m:Nat}(hm:bN cap mx=some m)(hh:bN n hi=some b)(hl:bN 0 lo=some x)(hx:mxOk hi mx=true)
  (h1:x≤b) (h2:b≤m) (h3:m≤cap) :
  (Instr.sliceBounds fl n cap (lo.map (RV.cv ρ)) (hi.map (RV.cv ρ)) (mx.map (RV.cv ρ))).run P w=.ok (x,b,m) w:=by
 unfold Instr.sliceBounds;rcases bN_ok hm with⟨rfl,rfl⟩|⟨k1,v1,rfl,g1,rfl⟩<;>rcases bN_ok hh with⟨rfl,rfl⟩|⟨k2,v2,rfl,g2,rfl⟩<;>(try cases hx)<;>
  rcases bN_ok hl with⟨rfl,rfl⟩|⟨k3,v3,rfl,g3,rfl⟩<;>simp only[Option.map_none,yxt,RV.cv,yye,yyf,yyb]
 ·rw[v8 g3 (by omega)];rfl
 ·rw[v8 g2 (by omega)];rfl
 ·rw[v8 g2 (by omega)];simp only[yyb];rw[v8 g3 (by omega)];rfl
 ·rw[v8 g1 (by omega)];simp only[yyb];rw[v8 g2 (by omega)];rfl
 ·rw[v8 g1 (by omega)];simp only[yyb];rw[v8 g2 (by omega)];simp only[yyb];rw[v8 g3 (by omega)];rfl
noncomputable def slR(P:Program)(H:Hg)(t:TypeId)(x:RV)(lo hi mx:Option RV):Option RV:=
 match evS P (underlying t) with
 |some (.slice elem)=>(match evS P (Go.sizeOf elem) with
  |some z=>(match x with
   |.ns=>(match bN 0 lo,bN 0 hi,bN 0 mx with
    |some 0,some 0,some 0=>bif mxOk hi mx then some .ns else none
    |_,_,_=>none)
   |.s l off n c=>(match bN 0 lo,bN n hi,bN c mx with
    |some p,some q,some m=>bif mxOk hi mx&&Nat.ble p q&&Nat.ble q m&&Nat.ble m c then some (.s l (bif Nat.beq m p then off else off+p*z) (q-p) (m-p)) else none
    |_,_,_=>none)
   |.o l e u v full zz=>(match bN 0 lo,bN (v-u) hi with
    |some p,some q=>bif mxOk hi mx&&Nat.ble p q&&(Nat.ble q (v-u)||(!full&&okO H (.o l e u (u+q) full zz)))&&okO H (.o l e u v full zz)&&Nat.beq z e&&Nat.ble u v then
      (match mx with
       |none=>bif !full||Nat.beq q (v-u) then some (.o l e (u+p) (u+q) full (bif Nat.beq p 0 then zz else u*e)) else none
       |some _=>match bN 0 mx with
        |some m=>bif Nat.beq m q then(bif Nat.blt 0 q||Nat.beq zz (u*e) then some (.o l e (u+p) (u+q) true (bif Nat.beq p 0 then zz else u*e)) else none)
          else bif Nat.ble q m&&Nat.ble m (v-u) then some (.s l ((u+p)*e) (q-p) (m-p)) else none
        |none=>none)
     else none
    |_,_=>none)
   |_=>none)
  |none=>none)
 |some (.array n elem)=>(match evS P (Go.sizeOf elem) with
  |some z=>(match x with
   |.p l off=>(match bN 0 lo,bN n hi,bN n mx with
    |some p,some q,some m=>bif mxOk hi mx&&Nat.ble p q&&Nat.ble q m&&Nat.ble m n then some (.s l (bif Nat.beq m p then off else off+p*z) (q-p) (m-p)) else none
    |_,_,_=>none)
   |_=>none)
  |none=>none)
 |_=>none
def q81(h1:SAT X M ρ s.toS w){l e u v z:Nat}{full:Bool}(ho:okO s.H (.o l e u v full z)=true):v≤(if full then v else(ρ.sv l).capN):=by
 simp only[okO] at ho;split at ho
 ·rename_i hl;simp only[yyc,Nat.beq_eq,Nat.blt_eq] at ho;obtain⟨⟨rfl,h3⟩,h4⟩:=ho;have h3:=yyd h3;obtain⟨_,_,ha⟩:=q0c h1 hl;simp only[RO.toHO,HO.ok] at ha;obtain⟨_,cs,_,_,_,m,cap,hb,hn,_,hd,_⟩:=ha;have:v≤cap:=by
   have:v*e≤m*e:=by rw[← hn];exact h3
   exact Nat.le_trans (Nat.le_of_mul_le_mul_right this h4) hd
  split
  ·omega
  ·rw[hb];simp only[Value.capN];omega
 ·cases ho
def beq_ne(h:p≠q):Nat.beq p q=false:=by
 cases hp:Nat.beq p q
 ·rfl
 ·exact absurd (yyg hp) h
def z6e{b u z zz zp p q C:Nat}(ha:p≤q)(hC:u+q≤C)(h0:p=0→zp=zz)(h1:p≠0→zp=u*z) :
  Value.slice (if C-u=p then some ⟨b,if C=u then zz else u*z,none⟩ else(some (⟨b,if C=u then zz else u*z,none⟩:Addr)).map (·.add (p*z))) (q-p) (C-u-p) =
   .slice (some ⟨b,if C=u+p then zp else(u+p)*z,none⟩) (u+q-(u+p)) (C-(u+p)):=by
 have e1:q-p=u+q-(u+p):=by omega
 have e2:C-u-p=C-(u+p):=by omega
 rw[e1,e2];by_cases hp:p=0
 ·subst hp;rw[h0 rfl];by_cases hm:C-u=0
  ·rw[if_pos hm,Nat.add_zero]
  ·rw[if_neg hm,Nat.add_zero];simp[z6]
 ·have hn:¬ C=u:=by omega
  rw[if_neg hn,h1 hp];by_cases hm:C-u=p
  ·rw[if_pos hm,if_pos (show C=u+p by omega)]
  ·rw[if_neg hm,if_neg (show ¬ C=u+p by omega)];simp[z6,yy8]
def slR_ok(h1:SAT X M ρ s.toS w){x r:RV}(h:slR P s.H t x lo hi mx=some r){k:Nat}(hb:x.bd k) :
  r.bd k∧∀ w,(Instr.sliceAt t (x.cv ρ) (lo.map (RV.cv ρ)) (hi.map (RV.cv ρ)) (mx.map (RV.cv ρ))).run P w=.ok (r.cv ρ) w:=by
 unfold slR at h;split at h
 ·rename_i elem hU;split at h
  ·rename_i z hz;have go:∀ {ad:Option Addr} {n cap p q m:Nat} {w:World},(Instr.sliceBounds true n cap (lo.map (RV.cv ρ)) (hi.map (RV.cv ρ)) (mx.map (RV.cv ρ))).run P w=.ok (p,q,m) w →
     (Instr.sliceAt t (.slice ad n cap) (lo.map (RV.cv ρ)) (hi.map (RV.cv ρ)) (mx.map (RV.cv ρ))).run P w=.ok (.slice (if m=p then ad else ad.map (·.add (p*z))) (q-p) (m-p)) w:=fun hr=>by
    unfold Instr.sliceAt Instr.slice;simp only[yye,j8 hU,yyb,hr,j8 hz,yyf]
   split at h
   ·split at h
    ·rename_i e1 e2 e3;cases hx:mxOk hi mx
     ·rw[hx] at h;cases h
     ·rw[hx,cond_true,yya] at h;subst h;exact⟨trivial,fun w=>go (f9 e3 e2 e1 hx (yyo _) (yyo _) (yyo _))⟩
    ·cases h
   ·rename_i l off n c;split at h
    ·rename_i p q m e1 e2 e3;cases hx:mxOk hi mx&&Nat.ble p q&&Nat.ble q m&&Nat.ble m c
     ·rw[hx] at h;cases h
     ·rw[hx,cond_true,yya] at h;subst h;simp only[yyc] at hx;refine⟨hb,fun w=>(go (f9 e3 e2 e1 hx.1.1.1 (yyd hx.1.1.2) (yyd hx.1.2) (yyd hx.2))).trans ?_⟩;simp only[RV.cv];cases hm:Nat.beq m p
      ·have:m≠p:=fun e=>by subst e;simp at hm
       rw[if_neg this,cond_false];simp[z6]
      ·rw[if_pos (yyg hm),cond_true]
    ·cases h
   ·rename_i l e u v full zz;split at h
    ·rename_i p q e1 e2;cases hx:mxOk hi mx&&Nat.ble p q&&(Nat.ble q (v-u)||(!full&&okO s.H (.o l e u (u+q) full zz)))&&okO s.H (.o l e u v full zz)&&Nat.beq z e&&Nat.ble u v
     ·rw[hx] at h;cases h
     ·rw[hx,cond_true] at h;simp only[yyc] at hx;obtain⟨⟨⟨⟨⟨hh,ha⟩,hd⟩,hp⟩,hj⟩,hl⟩:=hx;have hl:=yyd hl;have ha:=yyd ha;have hj:=yyg hj;subst hj;have hC:=q81 h1 hp;have hu:u+q≤(if full then v else(ρ.sv l).capN):=by
       simp only[yyu,yyc] at hd;rcases hd with hd|⟨hf,hd⟩
       ·have:=yyd hd;omega
       ·have hf:full=false:=by simpa using hf
        subst hf;exact q81 h1 hd
      generalize hk:(if full then v else(ρ.sv l).capN)=C at hC hu;have hv:(RV.o l z u v full zz).cv ρ=.slice (some ⟨ρ.blk l,if C=u then zz else u*z,none⟩) (v-u) (C-u):=by simp only[RV.cv,hk]
      rw[hv];split at h
      ·cases hf:!full||Nat.beq q (v-u)
       ·rw[hf] at h;cases h
       ·rw[hf,cond_true,yya] at h;subst h;refine⟨hb,fun w=>(go (f9 (m:=C-u) rfl e2 e1 hh ha (by omega) (yyo _))).trans ?_⟩;have hq:full=true→q=v-u:=fun e=>by rw[e] at hf;simpa using hf
        have hw:(if full then u+q else(ρ.sv l).capN)=C:=by
         cases full
         ·simpa using hk
         ·simp only[if_true] at hk ⊢;have:=hq rfl;omega
        simp only[RV.cv,hw];refine congrArg (Result.ok · w) ?_;exact z6e ha (by omega) (fun h0=>by rw[h0];rfl) (fun h0=>by rw[beq_ne h0];rfl)
      ·split at h
       ·rename_i mv _ m e3;have e3':bN (C-u) (some mv)=some m:=by rw[← e3];cases mv<;>rfl
        cases he:Nat.beq m q
        ·rw[he,cond_false] at h;cases hm:Nat.ble q m&&Nat.ble m (v-u)
         ·rw[hm] at h;cases h
         ·rw[hm,cond_true,yya] at h;subst h;simp only[yyc] at hm;have hy:=yyd hm.1;have hA:=yyd hm.2;have hB:m≠q:=fun e=>by subst e;simp at he
          refine⟨hb,fun w=>(go (f9 (m:=m) e3' e2 e1 hh ha hy (by omega))).trans ?_⟩;simp only[RV.cv];rw[if_neg (show ¬ m=p by omega),if_neg (show ¬ C=u by omega)];simp[z6,yy8]
        ·rw[he,cond_true] at h;cases hg:Nat.blt 0 q||Nat.beq zz (u*z)
         ·rw[hg] at h;cases h
         rw[hg,cond_true,yya] at h;subst h;simp only[yyu,Nat.blt_eq] at hg;have he:=yyg he;subst he;refine⟨hb,fun w=>(go (f9 (m:=m) e3' e2 e1 hh ha (yyo _) (by omega))).trans ?_⟩;simp only[RV.cv,if_true];refine congrArg (Result.ok · w) ?_;have hz:(if C=u then zz else u*z)=if u+m=u then zz else u*z:=by
          rcases hg with h0|h0
          ·rw[if_neg (by omega),if_neg (by omega)]
          ·rw[yyg h0];simp
         rw[hz];have:=z6e (b:=ρ.blk l) (u:=u) (z:=z) (zz:=zz) (zp:=bif Nat.beq p 0 then zz else u*z) (C:=u+m) ha (by omega) (fun h0=>by rw[h0];rfl) (fun h0=>by rw[beq_ne h0];rfl);rw[Nat.add_sub_cancel_left] at this;exact this
       ·cases h
    ·cases h
   ·cases h
  ·cases h
 ·rename_i n elem hU;split at h
  ·rename_i z hz;split at h
   ·rename_i l off;split at h
    ·rename_i p q m e1 e2 e3;cases hx:mxOk hi mx&&Nat.ble p q&&Nat.ble q m&&Nat.ble m n
     ·rw[hx] at h;cases h
     ·rw[hx,cond_true,yya] at h;subst h;simp only[yyc] at hx;refine⟨hb,fun w=>?_⟩;unfold Instr.sliceAt;simp only[yye,j8 hU,yyb,RV.cv,Instr.sureAddr,yyf,f9 e3 e2 e1 hx.1.1.1 (yyd hx.1.1.2) (yyd hx.1.2) (yyd hx.2),j8 hz];cases hm:Nat.beq m p
      ·have:m≠p:=fun e=>by subst e;simp at hm
       rw[if_neg this,cond_false];simp[z6]
      ·rw[if_pos (yyg hm),cond_true]
    ·cases h
   ·cases h
  ·cases h
 ·cases h
end
end Ox
namespace Ox
noncomputable section
open Go Go.RowKit
variable {X:Ctx}{s:RS}{M:Mem}{ρ:Env}{a:Act}{w w1:World}{P:Program}
def fdR(P:Program)(t:TypeId)(x:RV)(i:Nat):Option RV:=
 match x with
 |.g cs=>(match evS P (underlying t) with
  |some (.struct fs)=>(match fs[i]? with
   |some f=>partR P f.type cs f.offset
   |none=>none)
  |_=>none)
 |_=>none
def fdR_ok{x v:RV}{i n:Nat}(h:fdR P t x i=some v)(hb:x.bd n):v.bd n∧∀ w,(Instr.field t (x.cv ρ) i).run P w=.ok (v.cv ρ) w:=by
 unfold fdR at h;split at h
 ·split at h
  ·rename_i hU;split at h
   ·rename_i hf;obtain⟨e1,e2⟩:=z3h (ρ:=ρ) h hb;refine⟨e1,fun w=>?_⟩;unfold Instr.field;simp only[yye,j8 hU,yyb,hf,RV.cv,asAgg,yyf,e2]
   ·cases h
  ·cases h
 ·cases h
def ixR(P:Program)(t:TypeId)(x i:RV):Option RV:=
 match i with
 |.i _ k=>(match x with
  |.g cs=>(match evS P (underlying t) with
   |some (.array len elem)=>(match evS P (Go.sizeOf elem) with
    |some z=>bif decide (0≤k)&&decide (k<len) then partR P elem cs (k.toNat*z) else none
    |none=>none)
   |_=>none)
  |_=>none)
 |_=>none
def ixR_ok{x i v:RV}(h:ixR P t x i=some v)(hb:x.bd n):v.bd n∧∀ w,(Instr.index t (x.cv ρ) (i.cv ρ)).run P w=.ok (v.cv ρ) w:=by
 unfold ixR at h;split at h
 ·rename_i kk k;split at h
  ·rename_i cs;split at h
   ·rename_i len elem hU;split at h
    ·rename_i z hz;cases hc:decide (0≤k)&&decide (k<(len:Int))
     ·rw[hc] at h;cases h
     ·rw[hc,cond_true] at h;simp only[yyc,yyq] at hc;obtain⟨e1,e2⟩:=z3h (ρ:=ρ) h hb;refine⟨e1,fun w=>?_⟩;unfold Instr.index;simp only[RV.cv,asIntOf,yye,yyf,yyb,j8 hU];rw[if_pos hc];simp only[yye,j8 hz,yyb,e2]
    ·cases h
   ·cases h
  ·cases h
 ·cases h
noncomputable def lnR(P:Program)(H:Hg)(t:TypeId)(x:RV):Option RV:=
 match evS P (underlying t) with
 |some (.slice _)=>(match x with
  |.ns=>some (.i .i64 0)
  |.s _ _ n _=>some (.i .i64 n)
  |.o _ _ lo hi _ _=>some (.i .i64 (hi-lo:Nat))
  |_=>none)
 |some (.array n _)=>some (.i .i64 n)
 |some (.map _ _)=>(match x with
  |.m l=>(match hq H l with
   |some (.map es _)=>some (.i .i64 es.length)
   |_=>none)
  |_=>none)
 |_=>none
def lnR_ok(h1:SAT X M ρ s.toS w){x v:RV}(h:lnR P s.H t x=some v):(∀ n,v.bd n)∧∀ w1,Below w.heap.size w w1→∀ ty,(Builtin.len_ #[t] ty #[x.cv ρ]).run P w1=.ok (v.cv ρ) w1:=by
 unfold lnR at h;split at h
 ·rename_i e hU;split at h<;>simp only[yya,reduceCtorEq] at h<;>subst h<;>refine⟨fun _=>trivial,fun w1 _ ty=>?_⟩<;>simp[Builtin.len_,j8 hU,goInt,RV.cv]
 ·rename_i n e hU;simp only[yya] at h;subst h;refine⟨fun _=>trivial,fun w1 _ ty=>?_⟩;simp[Builtin.len_,j8 hU,goInt,RV.cv]
 ·rename_i k e hU;split at h
  ·rename_i l;split at h
   ·rename_i es clk hl;simp only[yya] at h;subst h;obtain⟨_,_,hd⟩:=q0c h1 hl;simp only[RO.toHO,HO.ok] at hd;obtain⟨_,ms,ha,he⟩:=hd;refine⟨fun _=>trivial,fun w1 hw ty=>?_⟩;have hh:w1.heap[ρ.blk l]?=some (.map ms clk):=by rw[hw.block _ (yyj.1 ha).1];exact ha
    have hb:ms.size=es.length:=by rw[← Array.length_toList,he,yx4]
    simp[Builtin.len_,j8 hU,goInt,RV.cv,getObj,Sem.run,hh,hb]
   ·cases h
  ·cases h
 ·cases h
def cpR(P:Program)(t:TypeId)(x:RV):Option RV:=
 match evS P (underlying t) with
 |some (.slice _)=>(match x with
  |.ns=>some (.i .i64 0)
  |.s _ _ _ c=>some (.i .i64 c)
  |.o _ _ lo hi true _=>some (.i .i64 (hi-lo:Nat))
  |_=>none)
 |_=>none
def cpR_ok{x v:RV}(h:cpR P t x=some v):(∀ n,v.bd n)∧∀ w1 ty,(Builtin.cap_ #[t] ty #[x.cv ρ]).run P w1=.ok (v.cv ρ) w1:=by
 unfold cpR at h;split at h
 ·rename_i e hU;split at h<;>simp only[yya,reduceCtorEq] at h<;>subst h<;>refine⟨fun _=>trivial,fun w1 ty=>?_⟩<;>simp[Builtin.cap_,j8 hU,goInt,RV.cv]
 ·cases h
def nlR(P:Program)(t:TypeId)(x y:RV):Option Bool:=
 match evS P (underlying t) with
 |some (.pointer _)=>(match x,y with
  |.p _ _,.np=>some false
  |.np,.p _ _=>some false
  |_,_=>none)
 |some (.slice _)=>(match x,y with
  |.s _ _ _ _,.ns=>some false
  |.o _ _ _ _ _ _,.ns=>some false
  |_,_=>none)
 |some (.func _ _ _)=>(match x,y with
  |.f _ _ _,.fz=>some false
  |_,_=>none)
 |_=>none
def inR(k:IntKind)(r:Int):Bool:=IntKind.casesOn (motive:=fun _=>Bool) k false false false
 (Int.casesOn (motive:=fun _=>Bool) r (fun n=>Nat.blt n 9223372036854775808) (fun n=>Nat.blt n 9223372036854775808)) false false false
 (Int.casesOn (motive:=fun _=>Bool) r (fun n=>Nat.blt n 18446744073709551616) (fun _=>false))
def z0s{r:Int}(h:inR k r=true):inK k r:=by cases k<;>cases r<;>simp[inR,Nat.blt] at h<;>simp only[inK,Int.ofNat_eq_natCast]<;>omega
def iLt(a b:Int):Bool:=Int.casesOn (motive:=fun _=>Bool) a (fun m=>Int.casesOn (motive:=fun _=>Bool) b (fun n=>Nat.blt m n) (fun _=>false)) (fun m=>Int.casesOn (motive:=fun _=>Bool) b (fun _=>true) (fun n=>Nat.blt n m))
def z32(a b:Int):iLt a b=decide (a<b):=by rw[yy5];cases a<;>cases b<;>simp[iLt,Nat.blt]<;>omega
def iNn(a:Int):Bool:=Int.casesOn (motive:=fun _=>Bool) a (fun _=>true) (fun _=>false)
def z31{a:Int}(h:iNn a=true):0≤a:=by cases a<;>simp[iNn] at h<;>simp only[Int.ofNat_eq_natCast]<;>omega
def keep(k:IntKind)(r:Int):Option RV:=bif inR k r then some (.i k r) else none
variable{v r u:RV}
def z2h{r:Int}(h:keep k r=some v):inK k r∧v=.i k r:=by
 unfold keep at h;cases hr:inR k r
 ·rw[hr] at h;cases h
 ·rw[hr,cond_true,yya] at h;exact⟨z0s hr,h.symm⟩
def f_add(k:IntKind)(a b:Int):Option RV:=keep k (Int.add a b)
def f_sub(k:IntKind)(a b:Int):Option RV:=keep k (Int.sub a b)
def f_mul(k:IntKind)(a b:Int):Option RV:=keep k (Int.mul a b)
def f_no(_:IntKind)(_ _:Int):Option RV:=none
def f_and(k:IntKind)(a b:Int):Option RV:=bif iNn a&&iNn b&&inR k a&&inR k b then some (.i k (Int.ofNat (Nat.land a.toNat b.toNat))) else none
def f_or(k:IntKind)(a b:Int):Option RV:=bif iNn a&&iNn b&&inR k a&&inR k b then some (.i k (Int.ofNat (Nat.lor a.toNat b.toNat))) else none
def f_eql(_:IntKind)(a b:Int):Option RV:=some (.b (iEq a b))
def f_neq(_:IntKind)(a b:Int):Option RV:=some (.b (!iEq a b))
def f_lss(_:IntKind)(a b:Int):Option RV:=some (.b (iLt a b))
def f_leq(_:IntKind)(a b:Int):Option RV:=some (.b (!iLt b a))
def f_gtr(_:IntKind)(a b:Int):Option RV:=some (.b (iLt b a))
def f_geq(_:IntKind)(a b:Int):Option RV:=some (.b (!iLt a b))
def f_op(op:BinOp):IntKind→Int→Int→Option RV:=BinOp.casesOn (motive:=fun _=>IntKind→Int→Int→Option RV) op f_add f_sub f_mul f_no f_no f_and f_or f_no f_no f_no f_no f_eql f_neq f_lss f_leq f_gtr f_geq
variable{op:BinOp}
def z85{a b:Int}(h:f_op op k a b=some v)(t:TypeId)(x y:Operand)(w:World) :
  (do eqGuard op t x y (.int k a) (.int k b);binOp op t (.int k a) (.int k b):Sem Value).run P w=.ok (v.cv ρ) w∧∀ n,v.bd n:=by
 have gd:∀ op,(eqGuard op t x y (.int k a) (.int k b)).run P w=.ok () w:=fun op=>g6 op t x y k k a b;cases op<;>simp only[f_op,f_no,reduceCtorEq] at h
 case add=>obtain⟨h1,rfl⟩:=z2h h;change inK k (a+b) at h1;refine⟨?_,fun _=>trivial⟩;simp only[yye,gd,yyb,binOp,ne_eq,not_true_eq_false,if_false,Op.intArith,yyf,n3 h1,RV.cv];rfl
 case sub=>obtain⟨h1,rfl⟩:=z2h h;change inK k (a-b) at h1;refine⟨?_,fun _=>trivial⟩;simp only[yye,gd,yyb,binOp,ne_eq,not_true_eq_false,if_false,Op.intArith,yyf,n3 h1,RV.cv];rfl
 case mul=>obtain⟨h1,rfl⟩:=z2h h;change inK k (a*b) at h1;refine⟨?_,fun _=>trivial⟩;simp only[yye,gd,yyb,binOp,ne_eq,not_true_eq_false,if_false,Op.intArith,yyf,n3 h1,RV.cv];rfl
 case and=>
  unfold f_and at h;cases hg:iNn a&&iNn b&&inR k a&&inR k b
  ·rw[hg] at h;cases h
  ·rw[hg,cond_true,yya] at h;subst h;simp only[yyc] at hg;refine⟨?_,fun _=>trivial⟩;have:=z6m (P:=P) (w:=w) (z31 hg.1.1.1) (z31 hg.1.1.2) (z0s hg.1.2) (z0s hg.2);simp only[yye,gd,yyb,binOp,ne_eq,not_true_eq_false,if_false,this,RV.cv];rfl
 case or=>
  unfold f_or at h;cases hg:iNn a&&iNn b&&inR k a&&inR k b
  ·rw[hg] at h;cases h
  ·rw[hg,cond_true,yya] at h;subst h;simp only[yyc] at hg;refine⟨?_,fun _=>trivial⟩;have:=run_or (P:=P) (w:=w) (z31 hg.1.1.1) (z31 hg.1.1.2) (z0s hg.1.2) (z0s hg.2);simp only[yye,gd,yyb,binOp,ne_eq,not_true_eq_false,if_false,this,RV.cv];rfl
 case eql=>simp only[f_eql,yya] at h;subst h;refine⟨?_,fun _=>trivial⟩;simp[gd,binOp,Op.intCmp,RV.cv,z0t]
 case neq=>simp only[f_neq,yya] at h;subst h;refine⟨?_,fun _=>trivial⟩;simp[gd,binOp,Op.intCmp,RV.cv,z0t];rfl
 case lss=>simp only[f_lss,yya] at h;subst h;refine⟨?_,fun _=>trivial⟩;simp[gd,binOp,Op.intCmp,RV.cv,z32]
 case leq=>simp only[f_leq,yya] at h;subst h;refine⟨?_,fun _=>trivial⟩;simp[gd,binOp,Op.intCmp,RV.cv,z32];rw[yy5];simp
 case gtr=>simp only[f_gtr,yya] at h;subst h;refine⟨?_,fun _=>trivial⟩;simp[gd,binOp,Op.intCmp,RV.cv,z32]
 case geq=>simp only[f_geq,yya] at h;subst h;refine⟨?_,fun _=>trivial⟩;simp[gd,binOp,Op.intCmp,RV.cv,z32];rw[yy5];simp
def kEq(a b:IntKind):Bool:=Nat.beq a.ctorIdx b.ctorIdx
def z8q{a b:IntKind}(h:kEq a b=true):a=b:=by cases a<;>cases b<;>first|rfl|(exact absurd h (by decide))
def f_bin(op:BinOp)(u v:RV):Option RV:=
 match u with
 |.i k a=>(match v with
  |.i k' b=>bif kEq k k' then f_op op k a b else none
  |_=>none)
 |_=>none
def bnR0(P:Program)(op:BinOp)(t:TypeId)(x y:Operand)(u v:RV):Option RV:=
 match u.sc with
 |some p=>(match v.sc with
  |some q=>(match evS P (do eqGuard op t x y p q;binOp op t p q) with
   |some r=>RV.ofV r
   |none=>none)
  |none=>none)
 |none=>(match nlR P t u v with
  |some b=>(match op with
   |.eql=>some (.b b)
   |.neq=>some (.b !b)
   |_=>none)
  |none=>none)
noncomputable section
def isI(k:IntKind)(v:RV):Bool:=@RV.rec (fun _=>Bool) (fun k' _=>kEq k k') (fun _=>false) (false) (false) (false) (false) (false) (fun _ _=>false) (fun _ _ _ _=>false) (fun _ _ _ _ _ _=>false) (fun _=>false) (fun _=>false) (fun _=>false) (fun _ _ _ _ _=>false) (fun _ _=>false) (fun _ _=>false) (false) (fun _ _ _ _=>false) v
def hdI(v:RV):Int:=@RV.rec (fun _=>Int) (fun _ z=>z) (fun _=>0) (0) (0) (0) (0) (0) (fun _ _=>0) (fun _ _ _ _=>0) (fun _ _ _ _ _ _=>0) (fun _=>0) (fun _=>0) (fun _=>0) (fun _ _ _ _ _=>0) (fun _ _=>0) (fun _ _=>0) (0) (fun _ _ _ _=>0) v
def allI(k:IntKind)(v:RV):Nat→Bool:=@RV.rec (fun _=>Nat→Bool) (fun _ _ _=>false) (fun _ _=>false) (fun _=>false) (fun _=>false) (fun _=>false) (fun _=>false) (fun _=>false) (fun _ _ _=>false) (fun _ _ _ _ _=>false) (fun _ _ _ _ _ _ _=>false) (fun _ _=>false) (fun _ _=>false) (fun _ _=>false) (fun _ _ _ _ _ _=>false) (fun _ _ _=>false) (fun _ _ _=>false) (fun n=>Nat.beq n 0) (fun x _ _ ih n=>bAnd (isI k x) (bAnd (Nat.blt 0 n) (ih (Nat.sub n 1)))) v
def eqI2(v:RV):Int→(RV→Bool)→Bool:=@RV.rec (fun _=>Int→(RV→Bool)→Bool) (fun _ _ _ _=>false) (fun _ _ _=>false) (fun _ _=>false) (fun _ _=>false) (fun _ _=>false) (fun _ _=>false) (fun _ _=>false) (fun _ _ _ _=>false) (fun _ _ _ _ _ _=>false) (fun _ _ _ _ _ _ _ _=>false) (fun _ _ _=>false) (fun _ _ _=>false) (fun _ _ _=>false) (fun _ _ _ _ _ _ _=>false) (fun _ _ _ _=>false) (fun _ _ _ _=>false) (fun _ _=>false) (fun y r _ _ z f=>bAnd (iEq z (hdI y)) (f r)) v
def eqI(v:RV):RV→Bool:=@RV.rec (fun _=>RV→Bool) (fun _ _ _=>true) (fun _ _=>true) (fun _=>true) (fun _=>true) (fun _=>true) (fun _=>true) (fun _=>true) (fun _ _ _=>true) (fun _ _ _ _ _=>true) (fun _ _ _ _ _ _ _=>true) (fun _ _=>true) (fun _ _=>true) (fun _ _=>true) (fun _ _ _ _ _ _=>true) (fun _ _ _=>true) (fun _ _ _=>true) (fun _=>true) (fun x _ _ ih b=>eqI2 b (hdI x) ih) v
def arO(P:Program)(t:TypeId):Option (Nat×IntKind):=
 match evS P (underlying t) with
 |some (.array len elem)=>(match evS P (underlying elem) with
  |some (.int k)=>bif eqtB P (.arr len (.int k)) t then some (len,k) else none
  |_=>none)
 |_=>none
def arR(P:Program)(op:BinOp)(t:TypeId)(u v:RV):Option RV:=
 match u with
 |.g a=>(match v with
  |.g b=>(match op with
   |.eql=>(match arO P t with
    |some q=>bif bAnd (allI q.2 a q.1) (allI q.2 b q.1) then some (.b (eqI a b)) else none
    |none=>none)
   |.neq=>(match arO P t with
    |some q=>bif bAnd (allI q.2 a q.1) (allI q.2 b q.1) then some (.b (!eqI a b)) else none
    |none=>none)
   |_=>none)
  |_=>none)
 |_=>none
end
def z4p{x r:RV}(h:allI k (.cons x r) n=true):∃ z m,x=.i k z∧n=m+1∧allI k r m=true:=by
 obtain⟨h1,h2⟩:=k9.1 (show bAnd (isI k x) (bAnd (Nat.blt 0 n) (allI k r (Nat.sub n 1)))=true from h);obtain⟨h2,h3⟩:=k9.1 h2;cases x<;>first|(cases h1;done)|skip
 rename_i k' z;have:=z8q (show kEq k k'=true from h1);subst this;have hn:0<n:=by simpa using h2
 exact⟨z,n-1,rfl,by omega,h3⟩
def z98(h:allI k .nil n=true):n=0:=yyg h
def z4n(h:allI k v n=true):v=.nil∨∃ x r,v=.cons x r:=by cases v<;>first|(cases h;done)|exact .inl rfl|exact .inr ⟨_,_,rfl⟩
def z4o{k:IntKind}{ρ:Env}:∀ {n:Nat} {v:RV},allI k v n=true→(v.cl ρ).length=n∧∀ i,i<n→∃ z,(v.cl ρ)[i]?=some (.int k z)
 |n,v,h=>by
  rcases z4n h with rfl|⟨x,r,rfl⟩
  ·have:=z98 h;subst this;exact⟨rfl,fun i hi=>absurd hi (Nat.not_lt_zero _)⟩
  ·obtain⟨z,m,rfl,rfl,h'⟩:=z4p h;obtain⟨e1,e2⟩:=z4o (n:=m) (v:=r) h';refine⟨by rw[RV.cl,List.length_cons,e1],fun i hi=>?_⟩;cases i with
   |zero=>exact⟨z,rfl⟩
   |succ i=>obtain⟨y,hy⟩:=e2 i (by omega);exact⟨y,by rw[RV.cl,yxk];exact hy⟩
def z9a{k:IntKind}{ρ:Env}:∀ {n:Nat} {a b:RV},allI k a n=true→allI k b n=true→(eqI a b=true↔a.cl ρ=b.cl ρ)
 |n,a,b,ha,hb=>by
  rcases z4n ha with rfl|⟨x,r,rfl⟩
  ·have:=z98 ha;subst this;rcases z4n hb with rfl|⟨y,q,rfl⟩
   ·exact⟨fun _=>rfl,fun _=>rfl⟩
   ·obtain⟨_,m,_,hm,_⟩:=z4p hb;cases hm
  ·obtain⟨z,m,rfl,rfl,hd⟩:=z4p ha;rcases z4n hb with rfl|⟨y,q,rfl⟩
   ·have:=z98 hb;cases this
   ·obtain⟨z',m',rfl,hm,he⟩:=z4p hb;have:m=m':=by omega
    subst this;have ih:=z9a (ρ:=ρ) hd he;have e:eqI (.cons (.i k z) r) (.cons (.i k z') q)=bAnd (iEq z z') (eqI r q):=rfl;rw[e,k9,ih,z0t,beq_iff_eq,RV.cl,RV.cl];simp[RV.cv]
def arR_ok(h:arR P op t u v=some r)(x y:Operand):(∀ n,r.bd n)∧∀ w,(do eqGuard op t x y (u.cv ρ) (v.cv ρ);binOp op t (u.cv ρ) (v.cv ρ):Sem Value).run P w=.ok (r.cv ρ) w:=by
 have key:∀ {a b:RV} {q:Nat×IntKind},arO P t=some q→allI q.2 a q.1=true→allI q.2 b q.1=true→P.eqGuardType P.depth t=false∧∀ w,(Op.equal t (.agg (a.cl ρ).toArray) (.agg (b.cl ρ).toArray)).run P w=.ok (eqI a b) w:=fun {a b q} hq h1 h2=>by
  unfold arO at hq;split at hq
  ·split at hq
   ·rename_i len elem _ _ k _;cases hb:eqtB P (.arr len (.int k)) t
    ·rw[hb] at hq;cases hq
    ·rw[hb,cond_true] at hq;injection hq with hq;subst hq
     have hT:=EqT.of hb;refine⟨hT.gt,fun w=>?_⟩;have fl:∀ {v:RV},allI k v len=true→Fl (.arr len (.int k)) (v.cl ρ):=fun {v} hv=>by obtain⟨e1,e2⟩:=z4o (ρ:=ρ) hv;refine⟨by rw[e1];simp[Ty.size],fun i hi=>?_⟩;obtain⟨z,hz⟩:=e2 i hi;refine⟨z,?_⟩;show((v.cl ρ).drop (i*1)).take 1=[.int k z];rw[Nat.mul_one];obtain⟨ha,hz⟩:=yy7.1 hz;rw[yy4 ha,hz];rfl
     obtain⟨b',hr,hd⟩:=(z0w (P:=P) (.arr len (.int k))).1 t 10000 hT.key.ty hT.key.ok hT.key.dep w _ _ (fl h1) (fl h2);have:b'=eqI a b:=by rw[yy5,hd];exact(z9a h1 h2).symm
     rw[← this];exact hr
   ·cases hq
  ·cases hq
 unfold arR at h;split at h
 ·rename_i a;split at h
  ·rename_i b;split at h
   ·split at h
    ·rename_i q hq;cases hb:bAnd (allI q.2 a q.1) (allI q.2 b q.1)
     ·rw[hb] at h;cases h
     ·rw[hb,cond_true] at h;injection h with h;subst h
      obtain⟨h1,h2⟩:=k9.1 hb;obtain⟨k1,k2⟩:=key hq h1 h2;exact⟨fun _=>trivial,fun w=>by simp only[RV.cv,yye,run_eqGuard_agg w _ _ _ _ _ _ k1,yyb,binOp,k2,yyf]⟩
    ·cases h
   ·split at h
    ·rename_i q hq;cases hb:bAnd (allI q.2 a q.1) (allI q.2 b q.1)
     ·rw[hb] at h;cases h
     ·rw[hb,cond_true] at h;injection h with h;subst h
      obtain⟨h1,h2⟩:=k9.1 hb;obtain⟨k1,k2⟩:=key hq h1 h2;exact⟨fun _=>trivial,fun w=>by simp only[RV.cv,yye,run_eqGuard_agg w _ _ _ _ _ _ k1,yyb,binOp,k2,yyf]⟩
    ·cases h
   ·cases h
  ·cases h
 ·cases h
def bnR(P:Program)(op:BinOp)(t:TypeId)(x y:Operand)(u v:RV):Option RV:=
 match f_bin op u v with
 |some r=>some r
 |none=>(match arR P op t u v with
  |some r=>some r
  |none=>bnR0 P op t x y u v)
def eq_runR{x y:Value}(h:∀ w,(Op.equal t x y).run P w=.ok b w)(e1:binOp .eql t x y=(do pure (.bool (← Op.equal t x y))))(e2:binOp .neq t x y=(do pure (.bool (!(← Op.equal t x y))))) :
  (∀ w,(binOp .eql t x y).run P w=.ok (.bool b) w)∧∀ w,(binOp .neq t x y).run P w=.ok (.bool !b) w:=
 ⟨fun w=>by rw[e1];simp only[yye,h,yyb,yyf],fun w=>by rw[e2];simp only[yye,h,yyb,yyf]⟩
def q67{x y:Value}(h:∀ d w,(Op.equalIn (d+1) t x y).run P w=.ok b w):∀ w,(Op.equal t x y).run P w=.ok b w:=fun w=>h 9999 w
def nlR_ok(h:nlR P t u v=some b):(∀ op x y w,(eqGuard op t x y (u.cv ρ) (v.cv ρ)).run P w=.ok () w) ∧
  (∀ w,(Op.equal t (u.cv ρ) (v.cv ρ)).run P w=.ok b w)∧(∀ w,(binOp .eql t (u.cv ρ) (v.cv ρ)).run P w=.ok (.bool b) w)∧∀ w,(binOp .neq t (u.cv ρ) (v.cv ρ)).run P w=.ok (.bool !b) w:=by
 have fin:∀ {x y:Value} {b:Bool},(∀ op p q w,(eqGuard op t p q x y).run P w=.ok () w)→(∀ d w,(Op.equalIn (d+1) t x y).run P w=.ok b w)→binOp .eql t x y=(do pure (.bool (← Op.equal t x y))) →
   binOp .neq t x y=(do pure (.bool (!(← Op.equal t x y))))→(∀ op p q w,(eqGuard op t p q x y).run P w=.ok () w)∧(∀ w,(Op.equal t x y).run P w=.ok b w)∧(∀ w,(binOp .eql t x y).run P w=.ok (.bool b) w) ∧
   ∀ w,(binOp .neq t x y).run P w=.ok (.bool !b) w:=fun g h e1 e2=>⟨g,q67 h,eq_runR (q67 h) e1 e2⟩
 unfold nlR at h;split at h
 ·rename_i e hU;split at h<;>simp only[yya,reduceCtorEq] at h<;>subst h <;>
   (refine fin (fun op p q w=>?_) (fun d w=>?_) rfl rfl
    ·cases op<;>simp[eqGuard,RV.cv]
    ·unfold Op.equalIn;simp only[yye,j8 hU,yyb,RV.cv,yyf];try rfl)
 ·rename_i e hU;split at h<;>simp only[yya,reduceCtorEq] at h<;>subst h <;>
   (refine fin (fun op p q w=>?_) (fun d w=>?_) rfl rfl
    ·cases op<;>simp[eqGuard,RV.cv]
    ·unfold Op.equalIn;simp only[yye,j8 hU,yyb,RV.cv,yyf])
 ·rename_i e hU;split at h<;>simp only[yya,reduceCtorEq] at h<;>subst h <;>
   (refine fin (fun op p q w=>?_) (fun d w=>?_) rfl rfl
    ·cases op<;>simp[eqGuard,RV.cv]
    ·unfold Op.equalIn;simp only[yye,j8 hU,yyb,RV.cv,yyf])
 ·cases h
def bnR0_ok(h:bnR0 P op t x y u v=some r):(∀ n,r.bd n)∧∀ w,(do eqGuard op t x y (u.cv ρ) (v.cv ρ);binOp op t (u.cv ρ) (v.cv ρ):Sem Value).run P w=.ok (r.cv ρ) w:=by
 unfold bnR0 at h;split at h
 ·rename_i p hp;split at h
  ·rename_i q hq;split at h
   ·rename_i z hz;rw[q01 hp ρ,q01 hq ρ];refine⟨fun n=>(q0s h ρ n).2,fun w=>?_⟩;rw[(q0s h ρ 0).1];exact j8 hz w
   ·cases h
  ·cases h
 ·split at h
  ·rename_i b hb;obtain⟨e1,_,e2,e3⟩:=nlR_ok (ρ:=ρ) hb;split at h<;>simp only[yya,reduceCtorEq] at h<;>subst h<;>refine⟨fun _=>trivial,fun w=>?_⟩<;>simp only[yye,e1,yyb]
   ·exact e2 w
   ·exact e3 w
  ·cases h
def bnR_ok(h:bnR P op t x y u v=some r):(∀ n,r.bd n)∧∀ w,(do eqGuard op t x y (u.cv ρ) (v.cv ρ);binOp op t (u.cv ρ) (v.cv ρ):Sem Value).run P w=.ok (r.cv ρ) w:=by
 unfold bnR at h;split at h
 ·rename_i r' hf;simp only[yya] at h;subst h;cases u<;>simp only[f_bin,reduceCtorEq] at hf
  cases v<;>simp only[reduceCtorEq] at hf
  rename_i k a k' b;cases hk:kEq k k'
  ·rw[hk] at hf;cases hf
  ·rw[hk,cond_true] at hf;have:=z8q hk;subst this;exact⟨(z85 (P:=P) (ρ:=ρ) hf t x y default).2,fun w=>(z85 hf t x y w).1⟩
 ·split at h
  ·rename_i r' hr;injection h with h;subst h
   exact arR_ok hr x y
  ·exact bnR0_ok h
end
end Ox
namespace Ox
noncomputable section
open Go Go.RowKit
variable {X:Ctx}{s:RS}{M:Mem}{ρ:Env}{a:Act}{w w1:World}{P:Program}
abbrev Ents:=List (RV×RV×Nat)
def toME(ρ:Env)(x:RV×RV×Nat):MapEntry:=⟨x.1.cv ρ,x.2.1.cv ρ,x.2.2⟩
def fkR(P:Program)(kt:TypeId)(k:Value):Ents→Nat→Option (Option (Nat×RV))
 |[],_=>some none
 |x::r,j=>match x.1.sc with
  |some e=>(match evS P (Op.equal kt k e) with
   |some true=>some (some (j,x.2.1))
   |some false=>fkR P kt k r (j+1)
   |none=>none)
  |none=>none
variable{d:TypeDesc}
def now_eq{x y:Value}(hd:evS P (underlying kt)=some d)(h:Instr.sameNow d x y=some b):∀ w,(Op.equal kt x y).run P w=.ok b w:=by
 unfold Instr.sameNow at h;split at h
 ·split at h
  ·rename_i hk;simp only[yya] at h;subst h hk;exact q67 fun n w=>by unfold Op.equalIn;simp only[yye,j8 hd,yyb,if_true,yyf]
  ·cases h
 ·simp only[yya] at h;subst h;exact q67 fun n w=>by unfold Op.equalIn;simp only[yye,j8 hd,yyb,yyf]
 ·simp only[yya] at h;subst h;exact q67 fun n w=>by unfold Op.equalIn;simp only[yye,j8 hd,yyb,yyf]
 ·cases h
def mapRes(ρ:Env)(r:Option (Nat×RV)):Option (Nat×Value):=r.map fun p=>(p.1,p.2.cv ρ)
def fkNow{kt:TypeId}{d:TypeDesc}{k:Value}(hd:evS P (underlying kt)=some d)(w:World):∀ {es:Ents} {j:Nat} {r:Option (Nat×RV)} {q:Option (Nat×Value)},fkR P kt k es j=some r →
  Instr.findNow d k (es.map (toME ρ)) j=some q→q=mapRes ρ r
 |[],j,r,q,h,hn=>by simp only[fkR,yya] at h;subst h;simp only[List.map_nil,Instr.findNow,yya] at hn;subst hn;rfl
 |x::es,j,r,q,h,hn=>by
  simp only[fkR] at h;split at h
  ·rename_i e he;simp only[yy2,Instr.findNow,toME,q01 he ρ] at hn;have both:∀ {b b':Bool},evS P (Op.equal kt k e)=some b→Instr.sameNow d k e=some b'→b=b':=fun h1 h2=>by have:=(j8 h1 w).symm.trans (now_eq hd h2 w);injection this
   split at h
   ·rename_i hq;simp only[yya] at h;subst h;split at hn
    ·simp only[yya] at hn;subst hn;rfl
    ·rename_i h2;exact absurd (both hq h2) (by simp)
    ·cases hn
   ·rename_i hq;split at hn
    ·rename_i h2;exact absurd (both hq h2) (by simp)
    ·exact fkNow hd w h hn
    ·cases hn
   ·cases h
  ·cases h
def fkAsk{kt:TypeId}{k:Value}:∀ {es:Ents} {j:Nat} {r:Option (Nat×RV)},fkR P kt k es j=some r→∀ w,(Instr.findAsking kt k (es.map (toME ρ)) j).run P w=.ok (mapRes ρ r) w
 |[],j,r,h,w=>by simp only[fkR,yya] at h;subst h;simp[Instr.findAsking,mapRes]
 |x::es,j,r,h,w=>by
  simp only[fkR] at h;split at h
  ·rename_i e he;simp only[yy2,Instr.findAsking,toME,q01 he ρ];split at h
   ·rename_i hq;simp only[yya] at h;subst h;simp only[yye,j8 hq,yyb,if_true,yyf];rfl
   ·rename_i hq;simp only[yye,j8 hq,yyb,yyt,if_false];exact fkAsk h w
   ·cases h
  ·cases h
variable{es:Ents}{r:Option (Nat×RV)}
def fk_run{k:Value}(hd:evS P (underlying kt)=some d)(h:fkR P kt k es 0=some r)(w:World) :
  (Instr.findKey kt k (es.map (toME ρ))).run P w=.ok (mapRes ρ r) w:=by
 unfold Instr.findKey;simp only[yye,j8 hd,yyb];split
 ·rename_i hq;rw[fkNow hd w h hq,yyf]
 ·exact fkAsk h w
def keyR(P:Program)(t:TypeId)(es:Ents)(empty:Bool)(k:RV):Option (TypeId×TypeId×Option (Nat×RV)):=
 match evS P (underlying t) with
 |some (.map kt et)=>(match evS P (underlying kt) with
  |some _=>(match k.sc with
   |some kv=>(match evS P (Instr.checkKey empty 10000 kt kv) with
    |some _=>(match fkR P kt kv es 0 with
     |some r=>some (kt,et,r)
     |none=>none)
    |none=>none)
   |none=>none)
  |none=>none)
 |_=>none
variable{k v:RV}
def q89(h:keyR P t es empty k=some (kt,et,r)) :
  (∀ w,(underlying t).run P w=.ok (.map kt et) w)∧(∀ w,(Instr.checkKey empty 10000 kt (k.cv ρ)).run P w=.ok () w)∧∀ w,(Instr.findKey kt (k.cv ρ) (es.map (toME ρ))).run P w=.ok (mapRes ρ r) w:=by
 unfold keyR at h;split at h
 ·rename_i hU;split at h
  ·rename_i hd;split at h
   ·rename_i kv hk;split at h
    ·rename_i hc;split at h
     ·rename_i hf;simp only[yya,yyl] at h;obtain⟨rfl,rfl,rfl⟩:=h;rw[q01 hk ρ];exact⟨fun w=>j8 hU w,fun w=>j8 hc w,fun w=>fk_run hd hf w⟩
     ·cases h
    ·cases h
   ·cases h
  ·cases h
 ·cases h
def z83{kt:TypeId}{k:Value}:∀ {es:Ents} {j i:Nat} {v:RV},fkR P kt k es j=some (some (i,v))→∃ e∈es,e.2.1=v
 |[],j,i,v,h=>by simp[fkR] at h
 |x::es,j,i,v,h=>by
  simp only[fkR] at h;split at h
  ·split at h
   ·simp only[yya,yyl] at h;exact⟨x,yyh,h.2⟩
   ·obtain⟨e,h1,h2⟩:=z83 h;exact⟨e,yyi _ h1,h2⟩
   ·cases h
  ·cases h
def z3z{i:Nat}(h:keyR P t es empty k=some (kt,et,some (i,v))):∃ e∈es,e.2.1=v:=by
 unfold keyR at h;split at h
 ·split at h
  ·split at h
   ·split at h
    ·split at h
     ·rename_i hf;simp only[yya,yyl] at h;obtain⟨_,_,e⟩:=h;rw[e] at hf;exact z83 hf
     ·cases h
    ·cases h
   ·cases h
  ·cases h
 ·cases h
def okT(v:RV)(b:Bool)(ok:Bool):RV:=bif ok then .t (.cons v (.cons (.b b) .nil)) else v
noncomputable def lkR(P:Program)(H:Hg)(t:TypeId)(x k:RV)(ok:Bool):Option RV:=
 match x with
 |.m l=>(match hq H l with
  |some (.map es _)=>(match keyR P t es es.isEmpty k with
   |some (_,et,r)=>(match r with
    |some (_,v)=>some (okT v true ok)
    |none=>(match evS P (zeroValue et) with
     |some z=>(match RV.ofV z with
      |some v=>some (okT v false ok)
      |none=>none)
     |none=>none))
   |none=>none)
  |_=>none)
 |_=>none
def okT_bd(h:v.bd n):(okT v b ok).bd n:=by cases ok<;>simp[okT,RV.bd,h]
def lkR_ok(h1:SAT X M ρ s.toS w){x k v:RV}(h:lkR P s.H t x k ok=some v):v.bd s.nx∧∀ w1,Below w.heap.size w w1→(Instr.lookup t (x.cv ρ) (k.cv ρ) ok).run P w1=.ok (v.cv ρ) w1:=by
 unfold lkR at h;split at h
 ·rename_i l;split at h
  ·rename_i es clk hl;obtain⟨_,hd,hg⟩:=q0c h1 hl;simp only[RO.toHO,HO.ok,HO.bd] at hg hd;obtain⟨_,ms,ha,hj⟩:=hg;have hb:ms.toList=es.map (toME ρ):=hj;have he:ms.isEmpty=es.isEmpty:=by
    have:ms.size=es.length:=by rw[← Array.length_toList,hj,yx4]
    cases es<;>simp_all[Array.isEmpty]
   have go:∀ {kt et:TypeId} {r:Option (Nat×RV)} {z:Value},keyR P t es es.isEmpty k=some (kt,et,r)→(match r with|some p=>z=p.2.cv ρ|none=>evS P (zeroValue et)=some z) →
     ∀ w1,Below w.heap.size w w1→(Instr.lookup t (RV.cv ρ (.m l)) (k.cv ρ) ok).run P w1=.ok (if ok then .tuple #[z,.bool r.isSome] else z) w1:=by
    intro kt et r z hk hz w1 hw;obtain⟨k1,k2,k3⟩:=q89 (ρ:=ρ) hk;have hh:w1.heap[ρ.blk l]?=some (.map ms clk):=by rw[hw.block _ (yyj.1 ha).1];exact ha
    unfold Instr.lookup;simp only[yye,k1,yyb,RV.cv,getObj,Sem.run,hh,yyf,he,k2,hb,k3];cases r with
    |some p=>subst hz;simp[mapRes]
    |none=>simp[mapRes,j8 hz]
   split at h
   ·rename_i r hk;split at h
    ·simp only[yya] at h;subst h;obtain⟨e,hp,hr⟩:=z3z hk;refine⟨okT_bd (by rw[← hr];exact(hd e hp).2),fun w1 hw=>(go hk rfl w1 hw).trans ?_⟩;cases ok<;>rfl
    ·split at h
     ·rename_i hz;split at h
      ·rename_i z v hv;simp only[yya] at h;subst h;have ev:=q0s hv ρ s.nx;refine⟨okT_bd ev.2,fun w1 hw=>(go (z:=v.cv ρ) hk (by rw[ev.1];exact hz) w1 hw).trans ?_⟩;cases ok<;>rfl
      ·cases h
     ·cases h
   ·cases h
  ·cases h
 ·cases h
end
end Ox
namespace Ox
open Go Go.RowKit
noncomputable section
variable {X:Ctx}{s:RS}{M:Mem}{ρ:Env}{a:Act}{w w1:World}{P:Program}
def RV.one:RV→Bool
 |.g _|.t _|.u|.nil|.cons _ _=>false
 |_=>true
def RV.ones:RV→Bool
 |.cons a r=>a.one&&r.ones
 |_=>true
def q20{r:RV}(h:r.one=true)(ρ:Env):(r.cv ρ).oneCell'=true:=by cases r<;>first|rfl|cases h
def q5w:∀ {r:RV},r.ones=true→∀ (ρ:Env) (v:Value),v∈r.cl ρ→v.oneCell'=true
 |.cons a r,h,ρ,v,hv=>by
  simp only[RV.ones,yyc] at h;simp only[RV.cl,yym] at hv;rcases hv with rfl|hv
  ·exact q20 h.1 ρ
  ·exact q5w h.2 ρ v hv
 |.i ..,_,_,_,h|.b _,_,_,_,h|.np,_,_,_,h|.ns,_,_,_,h|.fz,_,_,_,h|.nm,_,_,_,h|.u,_,_,_,h|.nil,_,_,_,h|.p ..,_,_,_,h|.s ..,_,_,_,h|.m _,_,_,_,h|.it _,_,_,_,h|.y _,_,_,_,h|.o ..,_,_,_,h|.f ..,_,_,_,h|.g _,_,_,_,h|.t _,_,_,_,h=>by simp[RV.cl] at h
def q1r:∀ {r:RV} {q:Nat},r.ones=true→q<r.len→(r.nth q).one=true
 |.cons a r,0,h,_=>by simp only[RV.ones,yyc] at h;exact h.1
 |.cons a r,q+1,h,hq=>by simp only[RV.ones,yyc] at h;exact q1r (r:=r) h.2 (by rw[m9] at hq;omega)
 |.i ..,_,_,h|.b _,_,_,h|.np,_,_,h|.ns,_,_,h|.fz,_,_,h|.nm,_,_,h|.u,_,_,h|.nil,_,_,h|.p ..,_,_,h|.s ..,_,_,h|.m _,_,_,h|.it _,_,_,h|.y _,_,_,h|.o ..,_,_,h|.f ..,_,_,h|.g _,_,_,h|.t _,_,_,h=>absurd h (Nat.not_lt_zero _)
def RV.cel(r:RV):Option RV:=
 match r with
 |.g c=>bif c.ones then some c else none
 |r=>bif r.one then some (.cons r .nil) else none
def q45{r c:RV}(h:r.cel=some c)(ρ:Env){n:Nat}(hb:r.bd n):(r.cv ρ).cells=(c.cl ρ).toArray∧c.ones=true∧c.bd n:=by
 unfold RV.cel at h;split at h
 ·rename_i c';cases ho:c'.ones
  ·rw[ho] at h;cases h
  ·rw[ho,cond_true,yya] at h;subst h;exact⟨rfl,ho,hb⟩
 ·cases ho:r.one
  ·rw[ho] at h;cases h
  ·rw[ho,cond_true,yya] at h;subst h;exact⟨q0r (q20 ho ρ),by simp[RV.ones,ho],hb,trivial⟩
def RV.app:RV→RV→RV
 |.cons a r,q=>.cons a (r.app q)
 |_,q=>q
def q1e(ρ:Env)(q:RV):∀ r:RV,(r.app q).cl ρ=r.cl ρ++q.cl ρ
 |.cons a r=>by simp only[RV.app,RV.cl,q1e ρ q r,List.cons_append]
 |.i ..|.b _|.np|.ns|.fz|.nm|.u|.nil|.p ..|.s ..|.m _|.it _|.y _|.o ..|.f ..|.g _|.t _=>rfl
def q0t{n:Nat}{q:RV}(hq:q.bd n):∀ {r:RV},r.bd n→(r.app q).bd n
 |.cons a r,h=>⟨h.1,q0t hq h.2⟩
 |.i ..,_|.b _,_|.np,_|.ns,_|.fz,_|.nm,_|.u,_|.nil,_|.p ..,_|.s ..,_|.m _,_|.it _,_|.y _,_|.o ..,_|.f ..,_|.g _,_|.t _,_=>hq
def RV.spl(cs:RV)(off:Nat)(r:RV):RV:=(cs.tk off).app (r.app (cs.drp (off+r.len)))
def j0c(ρ:Env)(cs:RV)(off:Nat)(r:RV):(cs.spl off r).cl ρ=splice (cs.cl ρ) off (r.cl ρ):=by simp only[RV.spl,q1e,q43,q7l,splice,j0,yxj]
def j0d{n off:Nat}{cs r:RV}(h1:cs.bd n)(h2:r.bd n):(cs.spl off r).bd n:=q0t (q0t (q7m h1) h2) (q6k h1)
def fillR(pl:Nat→Option (Nat×Nat))(L:List (Nat×RV)):RV→List (Nat×Operand)→Option RV
 |cs,[]=>some cs
 |cs,p::r=>match pl p.1 with
  |some (off,size)=>(match opv L p.2 with
   |some v=>(match v.cel with
    |some c=>bif Nat.beq c.len size&&Nat.ble (off+size) cs.len then fillR pl L (cs.spl off c) r else none
    |none=>none)
   |none=>none)
  |none=>none
def q6i(h2:REG X M ρ s.toS a){pl:Nat→Option (Nat×Nat)}:∀ {ps:List (Nat×Operand)} {cs v:RV},fillR pl s.L cs ps=some v→cs.bd s.nx →
  v.bd s.nx∧Instr.fill pl (cs.cl ρ).toArray (ps.map fun p=>(p.1,a.eval p.2))=some (v.cl ρ).toArray
 |[],cs,v,h,hb=>by simp only[fillR,yya] at h;subst h;exact⟨hb,rfl⟩
 |p::ps,cs,v,h,hb=>by
  simp only[fillR] at h;split at h
  ·rename_i off size hp;split at h
   ·rename_i u hu;split at h
    ·rename_i c hc;cases hg:Nat.beq c.len size&&Nat.ble (off+size) cs.len
     ·rw[hg] at h;cases h
     ·rw[hg,cond_true] at h;simp only[yyc] at hg;have g1:=yyg hg.1;have g2:=yyd hg.2;have eu:=j5 h2 hu;obtain⟨c1,_,c3⟩:=q45 hc ρ eu.1;obtain⟨e1,e2⟩:=q6i h2 h (j0d hb c3);refine⟨e1,?_⟩;rw[yy2,q9c hp (by rw[eu.2,c1];simp[j0,g1]) (by simp[j0,g2]),eu.2,c1];rw[j0c] at e2;exact e2
    ·cases h
   ·cases h
  ·cases h
def zR(P:Program)(t:TypeId):Option RV:=
 match evS P (zeroValue t) with
 |some z=>(match RV.ofV z with
  |some r=>r.cel
  |none=>none)
 |none=>none
variable{c v z:RV}
def q8m(h:zR P t=some c)(ρ:Env)(n:Nat):c.bd n∧c.ones=true∧∃ z,(∀ w,(zeroValue t).run P w=.ok z w)∧z.cells=(c.cl ρ).toArray∧∀ i,P.info? t=some i→i.zero=some z:=by
 unfold zR at h;split at h
 ·rename_i z hz;split at h
  ·rename_i r hr;have er:=q0s hr ρ n;obtain⟨c1,c2,c3⟩:=q45 h ρ er.2;refine⟨c3,c2,z,fun w=>j8 hz w,by rw[← er.1];exact c1,fun i hi=>?_⟩;have:=j8 hz default;simp only[zeroValue,typeInfo,yye,run_program,yyb,hi,yyf] at this;split at this
   ·rename_i ha;simp only[yyf,Result.ok.injEq,and_true] at this;rw[ha,this]
   ·simp[unsupported,Sem.run] at this
  ·cases h
 ·cases h
def plA(P:Program)(fs:Array Field):Option (Array (Nat×Nat)):=evS P (fs.mapM fun f=>do pure (f.offset,← Go.sizeOf f.type))
def bdR(P:Program)(L:List (Nat×RV))(t:TypeId)(ps:List (Nat×Operand)):Option RV:=
 match zR P t with
 |some z=>(match evS P (underlying t) with
  |some (.struct fs)=>(match plA P fs with
   |some pl=>(match fillR (pl[·]?) L z ps with
    |some c=>some (.g c)
    |none=>none)
   |none=>none)
  |some (.array _ elem)=>(match evS P (Go.sizeOf elem) with
   |some size=>(match fillR (fun i=>some (i*size,size)) L z ps with
    |some c=>some (.g c)
    |none=>none)
   |none=>none)
  |_=>none)
 |none=>none
def bdR_ok(h2:REG X M ρ s.toS a){ps:Array (Nat×Operand)}(h:bdR P s.L t ps.toList=some v) :
  v.bd s.nx∧∀ w,(Instr.build t (ps.map fun(i,x)=>(i,a.eval x))).run P w=.ok (v.cv ρ) w:=by
 unfold bdR at h;have hb:(ps.map fun(x:Nat×Operand)=>(x.1,a.eval x.2)).toList=ps.toList.map fun p=>(p.1,a.eval p.2):=by rw[yxi]
 split at h
 ·rename_i z hz;obtain⟨z1,_,zv,z2,z3,_⟩:=q8m hz ρ s.nx;split at h
  ·rename_i fs hU;split at h
   ·rename_i pl hd;split at h
    ·rename_i c hc;simp only[yya] at h;subst h;obtain⟨e1,e2⟩:=q6i h2 hc z1;refine⟨e1,fun w=>?_⟩;have ha:=j8 hd w;unfold Instr.build;simp only[yye,z2,yyb,j8 hU,ha,z3,hb];rw[e2];rfl
    ·cases h
   ·cases h
  ·rename_i k elem hU;split at h
   ·rename_i size he;split at h
    ·rename_i c hc;simp only[yya] at h;subst h;obtain⟨e1,e2⟩:=q6i h2 hc z1;refine⟨e1,fun w=>?_⟩;unfold Instr.build;simp only[yye,z2,yyb,j8 hU,j8 he,z3,hb];rw[e2];rfl
    ·cases h
   ·cases h
  ·cases h
 ·cases h
def opc(L:List (Nat×RV))(x:Operand):Option Value:=
 match opv L x with
 |some v=>v.sc
 |none=>none
def q4k(h2:REG X M ρ s.toS a){v:Value}(h:opc s.L x=some v):a.eval x=v:=by
 unfold opc at h;split at h
 ·rename_i r hr;rw[(j5 h2 hr).2,q01 h ρ]
 ·cases h
def opcs(L:List (Nat×RV)):List Operand→Option (List Value)
 |[]=>some []
 |x::r=>match opc L x with
  |some v=>(match opcs L r with
   |some l=>some (v::l)
   |none=>none)
  |none=>none
def z17(h2:REG X M ρ s.toS a):∀ {xs:List Operand} {l:List Value},opcs s.L xs=some l→xs.map a.eval=l
 |[],l,h=>by simp only[opcs,yya] at h;subst h;rfl
 |x::r,l,h=>by
  simp only[opcs] at h;split at h
  ·rename_i v hv;split at h
   ·rename_i l' hl;simp only[yya] at h;subst h;rw[yy2,q4k h2 hv,z17 h2 hl]
   ·cases h
  ·cases h
def fromS(P:Program)(q:Sem Value):Option RV:=
 match evS P q with
 |some v=>RV.ofV v
 |none=>none
variable{q:Sem Value}
def o7{r:RV}(h:fromS P q=some r)(ρ:Env):(∀ n,r.bd n)∧∀ w,q.run P w=.ok (r.cv ρ) w:=by
 unfold fromS at h;split at h
 ·rename_i v hv;exact⟨fun n=>(q0s h ρ n).2,fun w=>by rw[(q0s h ρ 0).1];exact j8 hv w⟩
 ·cases h
noncomputable def q_pick(L:List (Nat×RV))(c x y:Operand):Option RV:=
 match opv L c with
 |some (.b z)=>bif z then opv L x else opv L y
 |_=>none
noncomputable def q_bin(P:Program)(L:List (Nat×RV))(op:BinOp)(t:TypeId)(x y:Operand):Option RV:=
 match opv L x with
 |some u=>(match opv L y with
  |some v=>bnR P op t x y u v
  |none=>none)
 |none=>none
noncomputable def q_un(P:Program)(L:List (Nat×RV))(op:UnOp)(x:Operand):Option RV:=
 match opc L x with
 |some p=>fromS P (Op.unary op p)
 |none=>none
noncomputable def q_conv(P:Program)(L:List (Nat×RV))(src dst:TypeId)(x:Operand):Option RV:=
 match opc L x with
 |some p=>fromS P (convert src dst p)
 |none=>none
noncomputable def q_ext(L:List (Nat×RV))(x:Operand)(i:Nat):Option RV:=
 match opv L x with
 |some (.t vs)=>bif Nat.blt i vs.len then some (vs.nth i) else none
 |_=>none
noncomputable def q_nil(L:List (Nat×RV))(x:Operand):Option RV:=
 match opv L x with
 |some (.p l o)=>some (.p l o)
 |some (.f g p q)=>some (.f g p q)
 |some (.y l)=>some (.y l)
 |_=>none
noncomputable def q_field(P:Program)(L:List (Nat×RV))(t:TypeId)(x:Operand)(i:Nat):Option RV:=
 match opv L x with
 |some v=>fdR P t v i
 |none=>none
noncomputable def q_fa(P:Program)(L:List (Nat×RV))(t:TypeId)(x:Operand)(i:Nat):Option RV:=
 match opv L x with
 |some v=>faR P t v i
 |none=>none
noncomputable def q_ia(P:Program)(s:RS)(t:TypeId)(x i:Operand):Option RV:=
 match (match x with|.global g=>opg s g|x=>opv s.L x) with
 |some v=>(match opv s.L i with
  |some u=>iaR P s.H t v u
  |none=>none)
 |none=>none
def z61(h1:SAT X M ρ s.toS w)(h2:REG X M ρ s.toS a)(h:(match x with|.global g=>opg s g|x=>opv s.L x)=some v):v.bd s.nx∧a.eval x=v.cv ρ:=by
 split at h
 ·exact opg_ok h1 h
 ·exact j5 h2 h
noncomputable def q_ix(P:Program)(s:RS)(t:TypeId)(x i:Operand):Option RV:=
 match x with
 |.const c=>(match opc s.L i with
  |some u=>fromS P (Instr.index t c u)
  |none=>none)
 |x=>(match opv s.L x with
  |some v=>(match opv s.L i with
   |some u=>ixR P t v u
   |none=>none)
  |none=>none)
noncomputable def q_ld(P:Program)(s:RS)(t:TypeId)(x:Operand):Option RV:=
 match opv s.L x with
 |some v=>ldR P s.H t v
 |none=>none
noncomputable def opvO(L:List (Nat×RV)):Option Operand→Option (Option RV)
 |none=>some none
 |some x=>match opv L x with
  |some v=>some (some v)
  |none=>none
noncomputable def q_sl(P:Program)(s:RS)(t:TypeId)(x:Operand)(lo hi mx:Option Operand):Option RV:=
 match opv s.L x with
 |some v=>(match opvO s.L lo with
  |some l=>(match opvO s.L hi with
   |some h=>(match opvO s.L mx with
    |some m=>slR P s.H t v l h m
    |none=>none)
   |none=>none)
  |none=>none)
 |none=>none
def q5h(h2:REG X M ρ s.toS a){x:Option Operand}{v:Option RV}(h:opvO s.L x=some v):x.map a.eval=v.map (RV.cv ρ):=by
 cases x with
 |none=>simp only[opvO,yya] at h;subst h;rfl
 |some x=>
  simp only[opvO] at h;split at h
  ·rename_i r hr;simp only[yya] at h;subst h;rw[yxt,yxt,(j5 h2 hr).2]
  ·cases h
noncomputable def q_mf(L:List (Nat×RV))(fn:Go.Fn)(first cap:Array Operand):Option RV:=
 match fn with
 |.func f=>(match opvs L first.toList with
  |some x=>(match opvs L cap.toList with
   |some y=>some (.f f x y)
   |none=>none)
  |none=>none)
 |_=>none
noncomputable def q_lk(P:Program)(s:RS)(t:TypeId)(x k:Operand)(ok:Bool):Option RV:=
 match opv s.L x with
 |some v=>(match opv s.L k with
  |some u=>lkR P s.H t v u ok
  |none=>none)
 |none=>none
noncomputable def q_ent(s:RS)(x:Operand):Option RV:=
 match opv s.L x with
 |some (.it l)=>(match hq s.H l with
  |some (.iter m _ _ last (some bk))=>(match hq s.H m with
   |some (.map es clk)=>bif Nat.beq clk last then(match es.find? (fun e=>Nat.beq e.2.2 bk) with
    |some e=>some (.t (.cons e.1 (.cons e.2.1 .nil)))
    |none=>none) else none
   |_=>none)
  |_=>none)
 |_=>none
noncomputable def q_len(P:Program)(s:RS)(args:List Operand)(tys:List TypeId):Option RV:=
 match args with
 |[x]=>(match tys with
  |[t]=>(match opv s.L x with
   |some v=>lnR P s.H t v
   |none=>none)
  |_=>none)
 |_=>none
noncomputable def q_cap(P:Program)(s:RS)(args:List Operand)(tys:List TypeId):Option RV:=
 match args with
 |[x]=>(match tys with
  |[t]=>(match opv s.L x with
   |some v=>cpR P t v
   |none=>none)
  |_=>none)
 |_=>none
noncomputable def q_min(P:Program)(L:List (Nat×RV))(args:List Operand):Option RV:=
 match opcs L args with
 |some l=>fromS P (Builtin.min_ #[] 0 l.toArray)
 |none=>none
noncomputable def q_max(P:Program)(L:List (Nat×RV))(args:List Operand):Option RV:=
 match opcs L args with
 |some l=>fromS P (Builtin.max_ #[] 0 l.toArray)
 |none=>none
noncomputable def q_call(P:Program)(s:RS)(c:Call):Option RV:=
 match c.callee with
 |.builtin b=>(match b with
  |.len=>q_len P s c.args.toList c.argTypes.toList
  |.cap=>q_cap P s c.args.toList c.argTypes.toList
  |.min=>q_min P s.L c.args.toList
  |.max=>q_max P s.L c.args.toList
  |_=>none)
 |_=>none
noncomputable def evR0(P:Program)(s:RS)(o:Op):Option RV:=
 match o with
 |.move x=>opv s.L x
 |.assign x=>opv s.L x
 |.pick c x y=>q_pick s.L c x y
 |.binOp op t x y _=>q_bin P s.L op t x y
 |.unOp op _ x=>q_un P s.L op x
 |.convert src dst x=>q_conv P s.L src dst x
 |.extract x i=>q_ext s.L x i
 |.nilCheck x=>q_nil s.L x
 |.field t x i=>q_field P s.L t x i
 |.fieldAddr t x i=>q_fa P s.L t x i
 |.indexAddr t x i=>q_ia P s t x i
 |.index t x i=>q_ix P s t x i
 |.load t x=>q_ld P s t x
 |.slice t x lo hi mx=>q_sl P s t x lo hi mx
 |.makeFunc fn first cap=>q_mf s.L fn first cap
 |.lookup t x k ok=>q_lk P s t x k ok
 |.entry x=>q_ent s x
 |.build t ps=>bdR P s.L t ps.toList
 |.call c=>q_call P s c
 |_=>none
noncomputable def evR(P:Program)(s:RS)(o:Op):Option RV:=Op.casesOn (motive:=fun _=>Program→RS→Option RV) o (fun a0=>fun _ s=>opv s.L a0) (fun a0=>fun _ s=>opv s.L a0) (fun a0 a1 a2=>fun _ s=>q_pick s.L a0 a1 a2) (fun _=>fun _ _=>none) (fun _ _=>fun _ _=>none) (fun a0 a1=>fun P s=>bdR P s.L a0 a1.toList) (fun _ _ _=>fun _ _=>none) (fun _ _ _ _=>fun _ _=>none) (fun a0 a1=>fun P s=>q_ld P s a0 a1) (fun _ _ _=>fun _ _=>none) (fun _=>fun _ _=>none) (fun _=>fun _ _=>none) (fun a0=>fun _ s=>q_nil s.L a0) (fun a0 a1 a2 a3 a4=>fun P s=>q_bin P s.L a0 a1 a2 a3) (fun a0 a1 a2=>fun P s=>q_un P s.L a0 a2) (fun a0 a1 a2=>fun P s=>q_conv P s.L a0 a1 a2) (fun _ _=>fun _ _=>none) (fun _ _=>fun _ _=>none) (fun a0 a1 a2=>fun _ s=>q_mf s.L a0 a1 a2) (fun _ _=>fun _ _=>none) (fun _ _=>fun _ _=>none) (fun _ _ _=>fun _ _=>none) (fun a0 a1 a2 a3 a4=>fun P s=>q_sl P s a0 a1 a2 a3 a4) (fun a0 a1 a2=>fun P s=>q_fa P s.L a0 a1 a2) (fun a0 a1 a2=>fun P s=>q_field P s.L a0 a1 a2) (fun a0 a1 a2=>fun P s=>q_ia P s a0 a1 a2) (fun a0 a1 a2=>fun P s=>q_ix P s a0 a1 a2) (fun a0 a1 a2 a3=>fun P s=>q_lk P s a0 a1 a2 a3) (fun _ _ _ _=>fun _ _=>none) (fun _ _ _=>fun _ _=>none) (fun _ _ _ _=>fun _ _=>none) (fun _ _=>fun _ _=>none) (fun _ _=>fun _ _=>none) (fun a0=>fun _ s=>q_ent s a0) (fun _ _ _ _=>fun _ _=>none) (fun a0 a1=>fun _ s=>q_ext s.L a0 a1) (fun a0=>fun P s=>q_call P s a0) (fun _=>fun _ _=>none) (fun _=>fun _ _=>none) (fun _=>fun _ _=>none) (fun _ _=>fun _ _=>none) (fun _ _ _=>fun _ _=>none) (fun _ _=>fun _ _=>none) P s
def q1y(P:Program)(s:RS)(o:Op):evR P s o=evR0 P s o:=by cases o<;>rfl
def Yl(X:Ctx)(s:RS)(o:Oper)(v:RV):Prop:=∀ M ρ a w,SAT X M ρ s.toS w→REG X M ρ s.toS a→v.bd s.nx∧∀ w1,Below w.heap.size w w1→(execOp a.eval o).run X.P w1=.ok (.value (v.cv ρ)) w1
def x3{v:Value}{w w':World}(h:q.run P w=.ok v w'):(do pure (Next.value (← q)):Sem Next).run P w=.ok (.value v) w':=by simp only[yye,h,yyb,yyf]
def evR_ok{o:Oper}(h:evR X.P s o.op=some v):Yl X s o v∧notDef o.op=true:=by
 obtain⟨dst,op,ty,pos,after,guard⟩:=o;simp only[q1y] at h ⊢;refine⟨fun M ρ a w h1 h2=>?_,by cases op<;>first|rfl|(simp[evR0] at h)⟩;cases op<;>simp only[evR0,reduceCtorEq] at h
 case move x=>have e:=j5 h2 h;exact⟨e.1,fun w1 _=>by simp only[execOp,e.2,yyf]⟩
 case assign x=>have e:=j5 h2 h;exact⟨e.1,fun w1 _=>by simp only[execOp,e.2,yyf]⟩
 case pick c x y=>
  unfold q_pick at h;split at h
  ·rename_i z hz;have ez:=(j5 h2 hz).2;cases z
   ·have e:=j5 h2 h;exact⟨e.1,fun w1 _=>by simp only[execOp,ez,RV.cv,asBool,yye,yyf,yyb,yyt,if_false,e.2]⟩
   ·have e:=j5 h2 h;exact⟨e.1,fun w1 _=>by simp only[execOp,ez,RV.cv,asBool,yye,yyf,yyb,if_true,e.2]⟩
  ·cases h
 case binOp op t x y yt=>
  unfold q_bin at h;split at h
  ·rename_i u hu;split at h
   ·rename_i z hz;obtain⟨e1,e2⟩:=bnR_ok (ρ:=ρ) h;refine⟨e1 _,fun w1 _=>?_⟩;simp only[execOp,(j5 h2 hu).2,(j5 h2 hz).2];exact x3 (e2 w1)
   ·cases h
  ·cases h
 case unOp op t x=>
  unfold q_un at h;split at h
  ·rename_i p hp;obtain⟨e1,e2⟩:=o7 h ρ;exact⟨e1 _,fun w1 _=>by simp only[execOp,q4k h2 hp];exact x3 (e2 w1)⟩
  ·cases h
 case convert src dst x=>
  unfold q_conv at h;split at h
  ·rename_i p hp;obtain⟨e1,e2⟩:=o7 h ρ;exact⟨e1 _,fun w1 _=>by simp only[execOp,q4k h2 hp];exact x3 (e2 w1)⟩
  ·cases h
 case extract x i=>
  unfold q_ext at h;split at h
  ·rename_i vs hv;cases hb:Nat.blt i vs.len
   ·rw[hb] at h;cases h
   ·rw[hb,cond_true,yya] at h;subst h;have e:=j5 h2 hv;refine⟨m8 e.1,fun w1 _=>?_⟩;simp only[execOp,e.2,RV.cv];refine x3 ?_;simp only[Instr.extract,yxm,r9 ρ (show i<vs.len by simpa using hb),yyf]
  ·cases h
 case nilCheck x=>
  unfold q_nil at h;split at h<;>simp only[yya,reduceCtorEq] at h<;>subst h<;>rename_i hx<;>have e:=j5 h2 hx <;>
   exact⟨e.1,fun w1 _=>by simp only[execOp,e.2,RV.cv,yyf]⟩
 case field t x i=>
  unfold q_field at h;split at h
  ·rename_i u hu;have e:=j5 h2 hu;obtain⟨e1,e2⟩:=fdR_ok (ρ:=ρ) h e.1;exact⟨e1,fun w1 _=>by simp only[execOp,e.2];exact x3 (e2 w1)⟩
  ·cases h
 case fieldAddr t x i=>
  unfold q_fa at h;split at h
  ·rename_i u hu;have e:=j5 h2 hu;obtain⟨e1,e2⟩:=z36 (ρ:=ρ) h e.1;exact⟨e1,fun w1 _=>by simp only[execOp,e.2];exact x3 (e2 w1)⟩
  ·cases h
 case indexAddr t x i=>
  unfold q_ia at h;split at h
  ·rename_i u hu;split at h
   ·rename_i z hz;have e:=z61 h1 h2 hu;obtain⟨e1,e2⟩:=iaR_ok h1 h e.1;exact⟨e1,fun w1 _=>by simp only[execOp,e.2,(j5 h2 hz).2];exact x3 (e2 w1)⟩
   ·cases h
  ·cases h
 case index t x i=>
  unfold q_ix at h;split at h
  ·rename_i c;split at h
   ·rename_i u hu;obtain⟨e1,e2⟩:=o7 h ρ;exact⟨e1 _,fun w1 _=>by simp only[execOp,q4k h2 hu,show a.eval (.const c)=c from rfl];exact x3 (e2 w1)⟩
   ·cases h
  ·split at h
   ·rename_i u hu;split at h
    ·rename_i z hz;have e:=j5 h2 hu;obtain⟨e1,e2⟩:=ixR_ok (ρ:=ρ) h e.1;exact⟨e1,fun w1 _=>by simp only[execOp,e.2,(j5 h2 hz).2];exact x3 (e2 w1)⟩
    ·cases h
   ·cases h
 case load t x=>
  unfold q_ld at h;split at h
  ·rename_i u hu;have e:=j5 h2 hu;obtain⟨e1,e2⟩:=ldR_ok h1 h;exact⟨e1,fun w1 hw=>by simp only[execOp,e.2];exact x3 (e2 w1 hw)⟩
  ·cases h
 case slice t x lo hi mx=>
  unfold q_sl at h;split at h
  ·rename_i u hu;split at h
   ·rename_i l hl;split at h
    ·rename_i hh hD;split at h
     ·rename_i m hm;have e:=j5 h2 hu;obtain⟨e1,e2⟩:=slR_ok h1 h e.1;refine⟨e1,fun w1 _=>?_⟩;simp only[execOp,e.2,q5h h2 hl,q5h h2 hD,q5h h2 hm];exact x3 (e2 w1)
     ·cases h
    ·cases h
   ·cases h
  ·cases h
 case makeFunc fn first cap=>
  unfold q_mf at h;split at h
  ·split at h
   ·rename_i x hx;split at h
    ·rename_i y hy;simp only[yya] at h;subst h;have ex:=q31 h2 hx;have ey:=q31 h2 hy;refine⟨⟨ex.1,ey.1⟩,fun w1 _=>?_⟩;simp only[execOp];refine x3 ?_;simp only[Instr.makeFunc,yyf,RV.cv,← ex.2,← ey.2,← yxi]
    ·cases h
   ·cases h
  ·cases h
 case lookup t x k ok=>
  unfold q_lk at h;split at h
  ·rename_i u hu;split at h
   ·rename_i z hz;have e:=j5 h2 hu;obtain⟨e1,e2⟩:=lkR_ok h1 h;exact⟨e1,fun w1 hw=>by simp only[execOp,e.2,(j5 h2 hz).2];exact x3 (e2 w1 hw)⟩
   ·cases h
  ·cases h
 case entry x=>
  unfold q_ent at h;split at h
  ·rename_i l hx;split at h
   ·rename_i m since seen last bk hl;split at h
    ·rename_i es clk hm;cases hc:Nat.beq clk last
     ·rw[hc] at h;cases h
     ·rw[hc,cond_true] at h;have hc:=yyg hc;subst hc;split at h
      ·rename_i e he;simp only[yya] at h;subst h;obtain⟨_,hr,hC⟩:=q0c h1 hm;obtain⟨_,_,hj⟩:=q0c h1 hl;simp only[RO.toHO,HO.ok,HO.bd] at hC hr hj;obtain⟨_,ms,hg,hE⟩:=hC;obtain⟨_,sn,hd,_,hA⟩:=hj;have hA:=hA bk rfl;have hk:=List.mem_of_find?_eq_some he;refine⟨⟨(hr e hk).1,(hr e hk).2,trivial⟩,fun w1 hw=>?_⟩;have g1:w1.heap[ρ.blk m]?=some (.map ms clk):=by rw[hw.block _ (yyj.1 hg).1];exact hg
       have g2:w1.heap[ρ.blk l]?=some (.mapIter (some (ρ.blk m)) since sn clk):=by rw[hw.block _ (yyj.1 hd).1];exact hd
       have g3:ms.find? (fun e=>e.born==bk)=some (toME ρ e):=by
        rw[← Array.find?_toList,hE,List.find?_map];have:((fun e:MapEntry=>e.born==bk)∘fun x:RV×RV×Nat=>(⟨x.1.cv ρ,x.2.1.cv ρ,x.2.2⟩:MapEntry))=fun e=>Nat.beq e.2.2 bk:=by
         funext x;simp only[Function.comp];cases h:Nat.beq x.2.2 bk
         ·have:x.2.2≠bk:=fun e=>by rw[e] at h;simp at h
          simpa using this
         ·simpa using yyg h
        rw[this,he];rfl
       simp only[execOp,(j5 h2 hx).2,RV.cv];refine x3 ?_;unfold Instr.entry;simp only[yye,getObj,Sem.run,g2,hA,g1,yyb,bne_self_eq_false,yyt,if_false,g3,yyf];rfl
      ·cases h
    ·cases h
   ·cases h
  ·cases h
 case build t ps=>obtain⟨e1,e2⟩:=bdR_ok h2 h;exact⟨e1,fun w1 _=>by simp only[execOp];exact x3 (e2 w1)⟩
 case call c=>
  obtain⟨callee,args,argTypes⟩:=c;unfold q_call at h;simp only at h;split at h
  ·rename_i b;have ha:(args.map a.eval)=(args.toList.map a.eval).toArray:=by rw[← yxi]
   split at h
   ·unfold q_len at h;split at h
    ·rename_i x hx;split at h
     ·rename_i t ht;split at h
      ·rename_i u hu;have e:=j5 h2 hu;obtain⟨e1,e2⟩:=lnR_ok h1 h;refine⟨e1 _,fun w1 hw=>?_⟩;have hB:argTypes=#[t]:=by rw[← Array.toArray_toList (xs:=argTypes),ht]
       simp only[execOp,resolve,ha,hx,yy2,List.map_nil,e.2,hB,yye,yyf,yyb,invoke,builtin];simp only[e2 w1 hw,yyb]
      ·cases h
     ·cases h
    ·cases h
   ·unfold q_cap at h;split at h
    ·rename_i x hx;split at h
     ·rename_i t ht;split at h
      ·rename_i u hu;have e:=j5 h2 hu;obtain⟨e1,e2⟩:=cpR_ok (ρ:=ρ) h;refine⟨e1 _,fun w1 hw=>?_⟩;have hB:argTypes=#[t]:=by rw[← Array.toArray_toList (xs:=argTypes),ht]
       simp only[execOp,resolve,ha,hx,yy2,List.map_nil,e.2,hB,yye,yyf,yyb,invoke,builtin];simp only[e2 w1,yyb]
      ·cases h
     ·cases h
    ·cases h
   ·unfold q_min at h;split at h
    ·rename_i l hl;obtain⟨e1,e2⟩:=o7 h ρ;refine⟨e1 _,fun w1 hw=>?_⟩;simp only[execOp,resolve,ha,z17 h2 hl,yye,yyf,yyb,invoke,builtin];have:=e2 w1;simp only[Builtin.min_] at this ⊢;simp only[this,yyb]
    ·cases h
   ·unfold q_max at h;split at h
    ·rename_i l hl;obtain⟨e1,e2⟩:=o7 h ρ;refine⟨e1 _,fun w1 hw=>?_⟩;simp only[execOp,resolve,ha,z17 h2 hl,yye,yyf,yyb,invoke,builtin];have:=e2 w1;simp only[Builtin.max_] at this ⊢;simp only[this,yyb]
    ·cases h
   ·cases h
  ·cases h
variable {s':RS}{w':World}
def SAT.sub{s1 s2:S}(h:SAT X M ρ s1 w)(hH:∀ l o,lk s2.H l=some o→lk s1.H l=some o)(hb:s1.nx≤s2.nx):SAT X M ρ s2 w:=⟨h.below,h.msub,h.mnew,h.mem,fun l o hl=>let e:=h.own l o (hH l o hl);⟨yxa e.1 hb,q1f hb e.2.1,e.2.2⟩,fun l l' o o' b e1 e2=>h.apart l l' o o' b (hH l o e1) (hH l' o' e2),fun l o b e=>h.notM l o b (hH l o e)⟩
def SAT.updO(h:SAT X M ρ s.toS w){l:Nat}{o o':RO}(hl:hq s.H l=some o)(hg:w.grownBy w' (o.toHO.at ρ l))(ha:o'.toHO.at ρ l=o.toHO.at ρ l)(hb:o'.toHO.bd s.nx)(hd:o'.toHO.ok X M ρ l w')(hn:isNo o'=false:=by rfl) :
  SAT X M ρ (⟨s.L,updR s.H l o',s.nx⟩:RS).toS w':=by
 have h':lk s.toS.H l=some o.toHO:=lkH hl;refine(h.upd h' hg ha hb hd).sub (fun m q hm=>?_) (yyo _);show lk (updH (mapH s.H) l o'.toHO) m=some q;rw[q2s _ _ _ _ (by rw[lkH hl];rfl)];rcases q9y hn hm with⟨e1,e2⟩|⟨e1,e2⟩
 ·rw[if_pos e1,e2]
 ·have:=z5h hl;rw[if_neg (by rcases e2 with e2|e2<;>omega)];exact e1
structure CellsAt(n:Nat)(c:Nat→RV)(ρ:Env)(cs:Array Value):Prop where
 size:n≤cs.size
 at_:∀ i,i<n→cs[i]?=some ((c i).cv ρ)∧((c i).cv ρ).oneCell'=true
def capOk(k:Option Nat)(b n:Nat)(cs:Array Value)(sv:Value):Prop:=
 match k with|none=>cs.size=n|some e=>∃ m cap,sv=.slice (some ⟨b,0,none⟩) m cap∧n=m*e∧cs.size=cap*e∧m≤cap∧cap≤maxLen
def SAT.newO(h1:SAT X M ρ s.toS w){b:Nat}{o:RO}(hg:w.grownBy w' row)(hd:∀ b,row=some b→X.E.heap.size≤b∧M b=none){H':Hg}
  (ha:∀ l o,lk (mapH H') l=some o→lk (mapH s.H) l=some o∧∀ b,o.at ρ l=some b→row≠some b) (hb:row=some b∨w.heap.size≤b) (hh:o.toHO.bd (s.nx+1))
  (hj:o.toHO.at (ρ.with s.nx b .nil sv) s.nx=some b) (hk:o.toHO.ok X M (ρ.with s.nx b .nil sv) s.nx w') (hn:isNo o=false:=by rfl) :
  SAT X M (ρ.with s.nx b .nil sv) (⟨s.L,updR H' s.nx (o),s.nx+1⟩:RS).toS w':=by
 suffices hS:SAT X M (ρ.with s.nx b .nil sv) (⟨mapR s.L,(s.nx,o.toHO)::mapH H',s.nx+1⟩:S) w' by
  refine hS.sub (fun m q hm=>?_) (yyo _);show lk ((s.nx,o.toHO)::mapH H') m=some q;rcases q9y hn hm with⟨e1,e2⟩|⟨e1,_⟩
  ·subst e1;rw[e2];simp[lk]
  ·have:=(h1.own m q (ha m q e1).1).1;have hp:s.nx≠m:=fun e=>by have:m<s.nx:=this;omega
   simp only[lk,if_neg hp];exact e1
 refine h1.add (H':=mapH H') hg hd ha (j9 ρ s.nx b .nil sv) hh hk fun b' he=>?_;change HO.at (ρ.with s.nx b .nil sv) s.nx o.toHO=some b' at he;rw[hj] at he;injection he with he;subst he
 rcases hb with hb|hb
 ·exact⟨(hd b hb).2,fun l o1 hl e=>(ha l o1 hl).2 b e hb⟩
 ·refine⟨?_,fun l o1 hl e=>?_⟩
  ·cases hM:M b with
   |none=>rfl
   |some q=>have:=(yyj.1 (h1.mem b q hM)).1;omega
  ·have:=(p6 (h1.own l o1 (ha l o1 hl).1).2.2 e).2;omega
variable{ρ':Env}{k:Option Nat}
def z9s{n d l b:Nat}{t:Tr}(hb:ρ'.blk l=b)(hE:X.E.heap.size≤b)(hh:w.heap[b]?=some (.cells cs ty (0,0)))(hc:CellsAt n t.get ρ' cs)(hk:capOk k b n cs (ρ'.sv l)) :
  (RO.blk ty k n d t).toHO.ok X M ρ' l w:=by
 subst hb;simp only[RO.toHO,HO.ok];exact⟨hE,cs,hh,hc.size,hc.at_,hk⟩
def CellsAt.env{n m:Nat}{c:Nat→RV}(h:CellsAt n c ρ cs)(hr:ρ.upTo ρ' m)(hb:∀ i,i<n→(c i).bd m):CellsAt n c ρ' cs:=⟨h.size,fun i hi=>by rw[n6 hr (hb i hi)];exact h.at_ i hi⟩
def z2v{r:RV}(ho:r.ones=true)(h:r.len≤2 ^ d):CellsAt r.len (Tr.ofL d r).get ρ (r.cl ρ).toArray:=by refine⟨by simp[j0],fun i hi=>?_⟩;rw[q5v h hi];exact⟨by rw[yxm];exact r9 ρ hi,q20 (q1r ho hi) ρ⟩
def dep(n:Nat):Nat:=bif Nat.ble n 1 then 0 else Nat.log2 (n-1)+1
def q2v(n:Nat):n≤2 ^ dep n:=by
 unfold dep;cases h:Nat.ble n 1
 ·have:n-1<2 ^ (Nat.log2 (n-1)+1):=Nat.lt_log2_self;rw[cond_false];omega
 ·have:=yyd h;simpa using this
def DidR(X:Ctx)(M:Mem)(ρ:Env)(s:RS)(v:RV)(s':RS)(res:Result Next):Prop:=∃ ρ' w' n,res=.ok n w'∧ρ.upTo ρ' s.nx∧s.nx≤s'.nx∧s'.L=s.L∧SAT X M ρ' s'.toS w'∧v.bd s'.nx∧(n=.value (v.cv ρ')∨(n=.skip∧v=.u))
def Dd(X:Ctx)(s:RS)(o:Oper)(v:RV)(s':RS):Prop:=∀ M ρ a w,SAT X M ρ s.toS w→REG X M ρ s.toS a→DidR X M ρ s v s' ((execOp a.eval o).run X.P w)
variable{r:Result Next}
def z9i(h1:SAT X M ρ s.toS w)(hb:c.bd s.nx)(ho:c.ones=true)(hd:cs=(c.cl ρ).toArray)(hk:capOk k w.heap.size c.len cs sv)
  (hr:r=.ok (.value (v.cv (ρ.with s.nx w.heap.size .nil sv))) (w.alloc (.cells cs ty))) (hv:v.bd (s.nx+1)) :
  DidR X M ρ s v ⟨s.L,updR s.H s.nx (.blk ty k c.len (dep c.len) (Tr.ofL (dep c.len) c)),s.nx+1⟩ r:=by
 subst hd;have hup:=j9 ρ s.nx w.heap.size .nil sv;refine⟨_,_,_,hr,hup,yxf _,rfl,?_,hv,.inl rfl⟩;have ha:∀ i,i<c.len→((Tr.ofL (dep c.len) c).get i).bd s.nx:=fun i hi=>by rw[q5v (q2v _) hi];exact m8 hb
 refine h1.newO (w':=w.alloc (.cells (c.cl ρ).toArray ty)) (row:=none) (b:=w.heap.size) (World.grownBy_alloc w _ none) (fun b hb=>by cases hb) (fun l o hl=>⟨hl,fun _ _=>by simp⟩) (.inr (yyo _))
  (fun i hi=>t8 (yxf _) (ha i hi)) (by simp[RO.toHO,HO.at,Env.with]) (z9s (b:=w.heap.size) (by simp[Env.with]) h1.below.size (heap_alloc_new w _) ?_ ?_)
 ·exact(z2v ho (q2v _)).env hup ha
 ·have:(ρ.with s.nx w.heap.size .nil sv).sv s.nx=sv:=by simp[Env.with]
  rw[this];exact hk
variable{tr:Tr}
def z62{n d off:Nat}(h:CellsAt n tr.get ρ cs)(ho:c.ones=true)(he:off+c.len≤n)(hd:n≤2 ^ d) :
  CellsAt n (Tr.put d c tr off).get ρ (splice cs.toList off (c.cl ρ)).toArray:=by
 have ha:=j0 ρ c;have hs:=h.size;refine⟨by simp[splice,ha];omega,fun i hi=>?_⟩;rw[m5 (by omega) (by omega),yxm];simp only[splice];have hb:(cs.toList.take off).length=off:=by simp;omega
 by_cases h1:i<off
 ·rw[if_neg (by omega),List.getElem?_append_left (by simp[ha];omega),List.getElem?_append_left (by omega),yxl,if_pos h1,yxz];exact h.at_ i hi
 ·by_cases h2:i<off+c.len
  ·rw[if_pos ⟨by omega,h2⟩,List.getElem?_append_left (by simp[ha];omega),List.getElem?_append_right (by omega),hb];exact⟨r9 ρ (by omega),q20 (q1r ho (by omega)) ρ⟩
  ·rw[if_neg (by omega),List.getElem?_append_right (by simp[ha];omega)];simp only[yyx,hb,ha,List.getElem?_drop,yxz];rw[show off+c.len+(i-(off+c.len))=i by omega];exact h.at_ i hi
def put_bd{n d off m:Nat}(h:∀ i,i<n→(tr.get i).bd m)(hc:c.bd m)(ha:off+c.len≤n)(hd:n≤2 ^ d):∀ i,i<n→((Tr.put d c tr off).get i).bd m:=fun i hi=>by
 rw[m5 (by omega) (by omega)];split
 ·exact m8 hc
 ·exact h i hi
def q9h(h1:SAT X M ρ s.toS w){l off n d:Nat}(hl:hq s.H l=some (.blk ty k n d tr))(hb:c.bd s.nx)(ho:c.ones=true)(hh:off+c.len≤n)(hd:n≤2 ^ d) :
  ∃ w',(storeCells ⟨ρ.blk l,off,none⟩ (c.cl ρ)).run X.P w=.ok () w'∧SAT X M ρ (⟨s.L,updR s.H l (.blk ty k n d (Tr.put d c tr off)),s.nx⟩:RS).toS w':=by
 obtain⟨_,hj,hp⟩:=q0c h1 hl;simp only[RO.toHO,HO.ok,HO.bd] at hp hj;obtain⟨hE,cs,ha,hr,hu,hk⟩:=hp;have he:=run_storeCells_at X.P (ρ.blk l) off ty (c.cl ρ) 0 cs w ha (by rw[j0];omega) (q5w ho ρ);refine⟨_,he,h1.updO hl (o6 _ _ _) rfl (put_bd hj hb hh hd) (z9s rfl hE (setRow_heap w _ cs _ ty (0,0) ha) ?_ ?_)⟩
 ·have:=z62 (d:=d) ⟨hr,hu⟩ ho hh hd;simpa[splice] using this
 ·have hg:(cs.toList.take (off+0)++c.cl ρ++cs.toList.drop (off+0+(c.cl ρ).length)).toArray.size=cs.size:=by simp[j0];omega
  unfold capOk;rw[hg];exact hk
noncomputable def m_store(P:Program)(s:RS)(t:TypeId)(x y:Operand):Option (RV×RS):=
 match opv s.L x with
 |some (.p l off)=>(match hq s.H l with
  |some (.blk ty k n d tr)=>(match opv s.L y with
   |some v=>(match v.cel with
    |some c=>(match evS P (Go.sizeOf t) with
     |some sz=>bif Nat.beq c.len sz&&Nat.ble (off+sz) n&&Nat.ble n (2 ^ d) then some (.u,⟨s.L,updR s.H l (.blk ty k n d (Tr.put d c tr off)),s.nx⟩) else none
     |none=>none)
    |none=>none)
   |none=>none)
  |_=>none)
 |_=>none
def z5b(h:m_store X.P s t x y=some (v,s'))(h1:SAT X M ρ s.toS w)(h2:REG X M ρ s.toS a) :
  DidR X M ρ s v s' ((do Instr.storeAt t (a.eval x) (a.eval y);pure .skip:Sem Next).run X.P w):=by
 unfold m_store at h;split at h
 ·rename_i l off hx;split at h
  ·rename_i ty k n d tr hl;split at h
   ·rename_i u hu;split at h
    ·rename_i c hc;split at h
     ·rename_i sz ha;cases hg:Nat.beq c.len sz&&Nat.ble (off+sz) n&&Nat.ble n (2 ^ d)
      ·rw[hg] at h;cases h
      ·rw[hg,cond_true,yya,yyl] at h;obtain⟨rfl,rfl⟩:=h;simp only[yyc] at hg;have g1:=yyg hg.1.1;have g2:=yyd hg.1.2;have g3:=yyd hg.2;subst g1;have eu:=j5 h2 hu;obtain⟨c1,c2,c3⟩:=q45 hc ρ eu.1;obtain⟨w',e1,e2⟩:=q9h h1 hl c3 c2 g2 g3;refine⟨ρ,w',.skip,?_,Env.upTo.refl _ _,yyo _,rfl,e2,trivial,.inr ⟨rfl,rfl⟩⟩;have hst:(storeVar t ⟨ρ.blk l,off,none⟩ (u.cv ρ)).run X.P w=.ok () w':=by unfold storeVar;simp only[yye,j8 ha,yyb,c1];rw[if_neg (by simp[j0])];exact e1
       simp only[Instr.storeAt,(j5 h2 hx).2,eu.2,RV.cv,Instr.sureAddr,yye,yyf,yyb,hst]
     ·cases h
    ·cases h
   ·cases h
  ·cases h
 ·cases h
def nblk(s:RS)(ty:TypeId)(k:Option Nat)(c:RV):RS:=⟨s.L,updR s.H s.nx (.blk ty k c.len (dep c.len) (Tr.ofL (dep c.len) c)),s.nx+1⟩
noncomputable def m_alloc(P:Program)(s:RS)(t:TypeId):Option (RV×RS):=
 match zR P t with
 |some c=>some (.p s.nx 0,nblk s t none c)
 |none=>none
def q0k:(newRow t cs).run P w=.ok ⟨w.heap.size,0,none⟩ (w.alloc (.cells cs t)):=by simp only[newRow,newObj,yye,Sem.run,yyf,yyb];rfl
def z9g{z:Array Value}(h1:SAT X M ρ s.toS w)(hb:c.bd s.nx)(ho:c.ones=true)(hz:z=(c.cl ρ).toArray)
  (hr:r=.ok (.value (.pointer (some ⟨w.heap.size,0,none⟩))) (w.alloc (.cells z t))):DidR X M ρ s (.p s.nx 0) (nblk s t none c) r:=by
 refine z9i (sv:=Go.undef) h1 hb ho hz (by simp[capOk,hz,j0]) ?_ (yxd _);rw[hr];simp only[RV.cv,Env.with,if_true]
def z5c{old:Value}(h:m_alloc X.P s t=some (v,s'))(h1:SAT X M ρ s.toS w):DidR X M ρ s v s' ((do pure (Next.value (← Instr.alloc t true old)):Sem Next).run X.P w):=by
 unfold m_alloc at h;split at h
 ·rename_i c hc;simp only[yya,yyl] at h;obtain⟨rfl,rfl⟩:=h;obtain⟨c1,c2,z,c3,c4,_⟩:=q8m hc ρ s.nx;refine z9g h1 c1 c2 c4 ?_;simp only[Instr.alloc,newVar,yye,c3,yyb,q0k,yyf]
 ·cases h
noncomputable def m_box(s:RS)(t:TypeId)(x:Operand):Option (RV×RS):=
 match opv s.L x with
 |some v=>(match v.cel with
  |some c=>some (.p s.nx 0,nblk s t none c)
  |none=>none)
 |none=>none
def m_box_ok(h:m_box s t x=some (v,s'))(h1:SAT X M ρ s.toS w)(h2:REG X M ρ s.toS a):DidR X M ρ s v s' ((do pure (Next.value (← Instr.box t (a.eval x))):Sem Next).run X.P w):=by
 unfold m_box at h;split at h
 ·rename_i u hu;split at h
  ·rename_i c hc;simp only[yya,yyl] at h;obtain⟨rfl,rfl⟩:=h;have eu:=j5 h2 hu;obtain⟨c1,c2,c3⟩:=q45 hc ρ eu.1;refine z9g h1 c3 c2 c1 ?_;simp only[Instr.box,newVar,eu.2,yye,yyb,q0k,yyf]
  ·cases h
 ·cases h
def RV.rep(z:RV):Nat→RV
 |0=>.nil
 |n+1=>z.app (z.rep n)
def q2y(ρ:Env)(z:RV):∀ n,(z.rep n).cl ρ=(List.replicate n (z.cl ρ)).flatten
 |0=>rfl
 |n+1=>by rw[RV.rep,q1e,q2y ρ z n,List.replicate_succ,List.flatten_cons]
def q2z{z:RV}{k:Nat}(h:z.bd k):∀ n,(z.rep n).bd k
 |0=>trivial
 |n+1=>q0t (q2z h n) h
def q4b{q:RV}(hq:q.ones=true):∀ {r:RV},r.ones=true→(r.app q).ones=true
 |.cons a r,h=>by simp only[RV.ones,yyc] at h;simp only[RV.app,RV.ones,yyc];exact⟨h.1,q4b hq h.2⟩
 |.i ..,_|.b _,_|.np,_|.ns,_|.fz,_|.nm,_|.u,_|.nil,_|.p ..,_|.s ..,_|.m _,_|.it _,_|.y _,_|.o ..,_|.f ..,_|.g _,_|.t _,_=>hq
def q1q{z:RV}(h:z.ones=true):∀ n,(z.rep n).ones=true
 |0=>rfl
 |n+1=>q4b (q1q h n) h
def z51(ρ:Env)(n size:Nat)(z:RV){zc:Array Value}(hz:zc=(z.cl ρ).toArray)(hl:z.len=size):(Array.range (n*size)).map (fun x=>zc[x % zc.size]!)=((z.rep n).cl ρ).toArray:=by subst hz hl;apply Array.ext';rw[q2y];have:=q03 n (z.cl ρ);rw[j0] at this;exact this
def q9g{e m cap:Nat}(h1:SAT X M ρ s.toS w)(hb:c.bd s.nx)(ho:c.ones=true)(he:cs=(c.cl ρ).toArray)(ha:c.len=cap*e)(hm:m≤cap)(hd:cap≤maxLen)
  (hr:r=.ok (.value (.slice (some ⟨w.heap.size,0,none⟩) m cap)) (w.alloc (.cells cs ty))):DidR X M ρ s (.o s.nx e 0 m false 0) (nblk s ty (some e) c) r:=by
 refine z9i (k:=some e) (sv:=.slice (some ⟨w.heap.size,0,none⟩) cap cap) h1 hb ho he ⟨cap,cap,rfl,ha,by rw[he];simp[j0,ha],yyo _,hd⟩ ?_ (yxd _);rw[hr];simp[RV.cv,Env.with,Value.capN]
noncomputable def m_bsl0(P:Program)(s:RS)(t:TypeId):Option (RV×RS):=
 match evS P (underlying t) with
 |some (.slice elem)=>(match evS P (Go.sizeOf elem) with
  |some size=>some (.o s.nx size 0 0 false 0,nblk s elem (some size) .nil)
  |none=>none)
 |_=>none
def z75(h:m_bsl0 X.P s t=some (v,s'))(h1:SAT X M ρ s.toS w):DidR X M ρ s v s' ((do pure (Next.value (← Instr.buildSlice t 0 #[])):Sem Next).run X.P w):=by
 unfold m_bsl0 at h;split at h
 ·rename_i elem hU;split at h
  ·rename_i size ha;simp only[yya,yyl] at h;obtain⟨rfl,rfl⟩:=h;refine q9g (cap:=0) h1 trivial rfl rfl (by simp[RV.len]) (yyo _) (yyw _) ?_;unfold Instr.buildSlice;simp only[yye,j8 hU,j8 ha,yyb,yyf];simp[Instr.fill,q0k,RV.cl,Array.range_zero',Array.map_empty]
  ·cases h
 ·cases h
noncomputable def m_bsl(P:Program)(s:RS)(t:TypeId)(n:Nat)(ps:List (Nat×Operand)):Option (RV×RS):=
 match evS P (underlying t) with
 |some (.slice elem)=>(match evS P (Go.sizeOf elem) with
  |some size=>(match zR P elem with
   |some z=>(match fillR (fun i=>some (i*size,size)) s.L (z.rep n) ps with
    |some c=>bif c.ones&&Nat.beq z.len size&&Nat.beq c.len (n*size)&&Nat.blt 0 (n*size)&&Nat.ble (n*size) 16777216 then some (.o s.nx size 0 n false 0,nblk s elem (some size) c) else none
    |none=>none)
   |none=>none)
  |none=>none)
 |_=>none
def m_bsl_ok{n:Nat}{ps:Array (Nat×Operand)}(h:m_bsl X.P s t n ps.toList=some (v,s'))(h1:SAT X M ρ s.toS w)(h2:REG X M ρ s.toS a) :
  DidR X M ρ s v s' ((do pure (Next.value (← Instr.buildSlice t n (ps.map fun(i,x)=>(i,a.eval x)))):Sem Next).run X.P w):=by
 have ha:(ps.map fun(x:Nat×Operand)=>(x.1,a.eval x.2)).toList=ps.toList.map fun p=>(p.1,a.eval p.2):=by rw[yxi]
 unfold m_bsl at h;split at h
 ·rename_i elem hU;split at h
  ·rename_i size hb;split at h
   ·rename_i z hz;split at h
    ·rename_i c hc;cases hg:c.ones&&Nat.beq z.len size&&Nat.beq c.len (n*size)&&Nat.blt 0 (n*size)&&Nat.ble (n*size) 16777216
     ·rw[hg] at h;cases h
     ·rw[hg,cond_true,yya,yyl] at h;obtain⟨rfl,rfl⟩:=h;simp only[yyc] at hg;obtain⟨⟨⟨⟨g1,g2⟩,g3⟩,g4⟩,g5⟩:=hg;have g2:=yyg g2;have g3:=yyg g3;have g4:0<n*size:=by simpa using g4
      have g5:=yyd g5;obtain⟨z1,z2,zv,z3,z4,_⟩:=q8m hz ρ s.nx;obtain⟨e1,e2⟩:=q6i h2 hc (q2z z1 n);have hs:1≤size:=by
       rcases Nat.eq_zero_or_pos size with h|h
       ·rw[h] at g4;simp at g4
       ·exact h
      have hn:n≤maxLen:=by have:n*1≤n*size:=Nat.mul_le_mul_left _ hs;simp only[maxLen];omega
      refine q9g h1 e1 g1 rfl g3 (yyo _) hn ?_;unfold Instr.buildSlice;simp only[yye,j8 hU,j8 hb,yyb,yyf];rw[if_neg (show ¬ n*size>2 ^ 24 by omega)];rw[if_neg (show ¬ n*size=0 by omega)];simp only[yye,z3,yyb,yyf,ha];have hd:=z51 ρ n size z z4 g2;rw[hd,e2];simp only[yye,q0k,yyb,yyf]
    ·cases h
   ·cases h
  ·cases h
 ·cases h
def slN:RV→Option Nat
 |.ns=>some 0
 |.s _ _ n _=>some n
 |.o _ _ lo hi _ _=>some (hi-lo)
 |_=>none
def q93{x:RV}{n:Nat}(h:slN x=some n)(ρ:Env):∃ ad c,x.cv ρ=.slice ad n c:=by cases x<;>simp only[slN,yya,reduceCtorEq] at h<;>subst h<;>exact⟨_,_,rfl⟩
def srcR(H:Hg)(size:Nat)(x:RV):Option (Nat×RV):=
 match slB x with
 |some (l,off,n)=>(match hq H l with
  |some (.blk _ _ nn _ tr)=>bif Nat.ble (off+n*size) nn&&okO H x&&Nat.blt 0 n then some (n,tr.cut (n*size) off) else none
  |_=>none)
 |none=>none
def one_of{r:RV}(h:(r.cv ρ).oneCell'=true):r.one=true:=by cases r<;>first|rfl|(exact absurd h (by decide))|(simp[RV.cv,Go.undef,Value.oneCell'] at h)
def q9l{n:Nat}{c:Nat→RV}{cs:Array Value}(hc:CellsAt n c ρ cs){tr:Tr}(he:c=tr.get):∀ {k off:Nat},off+k≤n→(tr.cut k off).ones=true
 |0,_,_=>rfl
 |k+1,off,h=>by rw[q9q];simp only[RV.ones,yyc];exact⟨one_of (by have:=(hc.at_ off (by omega)).2;rw[he] at this;exact this),q9l hc he (by omega)⟩
def z6d(h1:SAT X M ρ s.toS w){size:Nat}{x c:RV}{n:Nat}(h:srcR s.H size x=some (n,c)) :
  0<n∧c.len=n*size∧c.ones=true∧c.bd s.nx∧∃ adr cap,x.cv ρ=.slice (some adr) n cap∧∀ j u,(c.cl ρ)[j]?=some u→w.cell? (adr.add j)=some u:=by
 unfold srcR at h;split at h
 ·rename_i l off m he;split at h
  ·rename_i ty k nn d tr hl;cases hg:Nat.ble (off+m*size) nn&&okO s.H x&&Nat.blt 0 m
   ·rw[hg] at h;cases h
   ·rw[hg,cond_true,yya,yyl] at h;obtain⟨rfl,rfl⟩:=h;simp only[yyc,Nat.blt_eq] at hg;have g1:=yyd hg.1.1;obtain⟨e1,cap,e2⟩:=z27 h1 he hg.1.2;obtain⟨_,hb,hd⟩:=q0c h1 hl;simp only[RO.toHO,HO.ok,HO.bd] at hd hb;obtain⟨_,cs,ha,hh,hc,_⟩:=hd;refine⟨hg.2,t7 _ _ _,q9l ⟨hh,hc⟩ rfl g1,q41 fun j _ hj=>hb j (by omega),_,cap,e2,fun j u hu=>?_⟩;rw[z6,x4 ha];rw[z9l hc rfl g1,yxl] at hu;split at hu
    ·simpa[List.getElem?_drop] using hu
    ·cases hu
  ·cases h
 ·cases h
noncomputable def m_mks(P:Program)(s:RS)(t:TypeId)(l c:Operand):Option (RV×RS):=
 match evS P (underlying t) with
 |some (.slice elem)=>(match evS P (typeInfo elem) with
  |some i=>(match zR P elem with
   |some z=>(match opc s.L l with
    |some (.int _ n)=>(match opc s.L c with
     |some (.int _ m)=>bif decide (0≤n)&&decide (n≤m)&&decide (m≤100000000)&&Nat.ble i.bytes 65536&&Nat.beq z.len i.size then
       some (.o s.nx i.size 0 n.toNat false 0,nblk s elem (some i.size) (z.rep m.toNat)) else none
     |_=>none)
    |_=>none)
   |none=>none)
  |none=>none)
 |_=>none
def q3b(z:RV)(ρ:Env):∀ n,(z.rep n).len=n*z.len:=fun n=>by rw[← j0 ρ,q2y];simp[j0]
def m_mks_ok{l c:Operand}(h:m_mks X.P s t l c=some (v,s'))(h1:SAT X M ρ s.toS w)(h2:REG X M ρ s.toS a) :
  DidR X M ρ s v s' ((do pure (Next.value (← Instr.makeSlice t (a.eval l) (a.eval c))):Sem Next).run X.P w):=by
 unfold m_mks at h;split at h
 ·rename_i elem hU;split at h
  ·rename_i i hi;split at h
   ·rename_i z hz;split at h
    ·rename_i k1 n hn;split at h
     ·rename_i k2 m hm;cases hg:decide (0≤n)&&decide (n≤m)&&decide (m≤100000000)&&Nat.ble i.bytes 65536&&Nat.beq z.len i.size
      ·rw[hg] at h;cases h
      ·rw[hg,cond_true,yya,yyl] at h;obtain⟨rfl,rfl⟩:=h;simp only[yyc,yyq] at hg;obtain⟨⟨⟨⟨g1,g2⟩,g3⟩,g4⟩,g5⟩:=hg;have g4:=yyd g4;have g5:=yyg g5;obtain⟨z1,z2,zv,z3,z4,_⟩:=q8m hz ρ s.nx;have hb:IntKind.i64.wrap n=n:=IntWalk.i64_in n ⟨by omega,by omega⟩;have hd:IntKind.i64.wrap m=m:=IntWalk.i64_in m ⟨by omega,by omega⟩;have he:(i.bytes:Int)*m≤65536*100000000:=Int.mul_le_mul (by omega) g3 (by omega) (by omega);refine q9g h1 (q2z z1 _) (q1q z2 _) rfl (cap:=m.toNat) (by rw[q3b z ρ,g5]) (by omega) (by simp only[maxLen];omega) ?_;unfold Instr.makeSlice;simp only[yye,j8 hU,yyb,q4k h2 hn,q4k h2 hm,asInt,asIntOf,yyf,j8 hi,hb,hd];rw[if_neg (by simp;omega)];simp only[yyf,yye,run_askRoom,yyb,Go.sizeOf,j8 hi,Sem.run_ite,Result.andThen_ite];split
       ·rename_i h0;have ha:(z.rep m.toNat).cl ρ=[]:=yxn (by rw[j0,q3b z ρ,g5];exact h0);simp only[h0,Array.range_zero',Array.map_empty,q0k,yyb,ha]
       ·simp only[z3,yyb];rw[z51 ρ m.toNat i.size z z4 g5];simp only[q0k,yyb]
     ·cases h
    ·cases h
   ·cases h
  ·cases h
 ·cases h
def q9i(h1:SAT X M ρ s.toS w){H':Hg}(hg:w.grownBy w' row)(hd:∀ b,row=some b→X.E.heap.size≤b∧M b=none)
  (he:∀ l o,lk (mapH H') l=some o→lk (mapH s.H) l=some o∧∀ b,o.at ρ l=some b→row≠some b) {elem:TypeId} {e m d:Nat} {tr:Tr} {v:Value} {xs:List Value} (hm:0<m)
  (hh:w'.ownsRow X.E.heap.size elem e v m xs) (hb:∀ b,v.ownBlock=some b→row=some b∨w.heap.size≤b) (hk:∀ i,i<m*e→(tr.get i).bd s.nx)
  (hp:∀ i,i<m*e→xs[i]?=some ((tr.get i).cv ρ)∧((tr.get i).cv ρ).oneCell'=true) {r:Result Next} (hr:r=.ok (.value v) w') :
  DidR X M ρ s (.o s.nx e 0 m false 0) ⟨s.L,updR H' s.nx (.blk elem (some e) (m*e) d tr),s.nx+1⟩ r:=by
 rcases hh.2 with⟨_,h0⟩|⟨g,cap,cur,hv,hE,ha,hl,hj,hu,hw⟩
 ·omega
 ·have hup:=j9 ρ s.nx g .nil v;have hy:m*e≤cap*e:=yy1 _ hl;refine⟨_,w',_,hr,hup,yxf _,rfl,h1.newO (row:=row) (b:=g) (sv:=v) hg hd he (hb g (by rw[hv];rfl)) (fun i hi=>t8 (yxf _) (hk i hi)) (by simp[RO.toHO,HO.at,Env.with])
   (z9s (b:=g) (by simp[Env.with]) hE ha ⟨by omega,fun i hi=>?_⟩ ?_),yxd _,.inl ?_⟩
  ·rw[n6 hup (hk i hi)];have:=hp i hi;rw[← hw,yxl,if_pos hi,yxz] at this;exact this
  ·simp only[capOk];exact⟨m,cap,by simp[Env.with,hv],rfl,hu,hl,hj⟩
  ·simp only[RV.cv,Env.with,if_true,hv,Value.capN];simp
def apT(P:Program)(t:TypeId):Option (TypeId×TypeInfo×RV):=
 match evS P (underlying t) with
 |some (.slice elem)=>(match P.info? elem with
  |some i=>(match zR P elem with
   |some z=>bif Nat.beq z.len i.size&&Nat.blt 0 i.size&&Nat.ble i.bytes 65536 then some (elem,i,z) else none
   |none=>none)
  |none=>none)
 |_=>none
structure ApT(P:Program)(t elem:TypeId)(i:TypeInfo)(z:RV):Prop where
 und:P.underlying t=some (.slice elem)
 info:P.info? elem=some i
 zlen:z.len=i.size
 pos:0<i.size
 bytes:i.bytes≤65536
 zero:∃ zv,(∀ w,(zeroValue elem).run P w=.ok zv w)∧i.zero=some zv∧∀ ρ,zv.cells=(z.cl ρ).toArray
 ones:z.ones=true
 bd:∀ n,z.bd n
def z54{d:TypeDesc}(h:evS P (underlying t)=some d):P.underlying t=some d:=by
 have:=j8 h default;simp only[underlying,yye,run_program,yyb] at this;split at this
 ·rename_i hd;simp only[yyf,Result.ok.injEq,and_true] at this;rw[hd,this]
 ·simp[stuck,Sem.run] at this
def apT_ok(h:apT P t=some (elem,i,z)):ApT P t elem i z:=by
 unfold apT at h;split at h
 ·rename_i el hU;split at h
  ·rename_i i' hi;split at h
   ·rename_i z' hz;cases hg:Nat.beq z'.len i'.size&&Nat.blt 0 i'.size&&Nat.ble i'.bytes 65536
    ·rw[hg] at h;cases h
    ·rw[hg,cond_true,yya,yyl,yyl] at h;obtain⟨rfl,rfl,rfl⟩:=h;simp only[yyc,Nat.blt_eq] at hg
     let ρ0:Env:=⟨fun _=>0,fun _=>.nil,fun _=>Go.undef⟩
     refine⟨z54 hU,hi,yyg hg.1.1,hg.1.2,yyd hg.2,?_,(q8m hz ρ0 0).2.1,fun n=>(q8m hz ρ0 n).1⟩;obtain⟨_,_,zv,e1,e2,e3⟩:=q8m hz ρ0 0;refine⟨zv,e1,e3 _ hi,fun ρ=>?_⟩;obtain⟨_,_,zv',e1',e2',_⟩:=q8m hz ρ 0;have:=(e1 default).symm.trans (e1' default);injection this with this
     rw[this];exact e2'
   ·cases h
  ·cases h
 ·cases h
noncomputable def m_app1(s:RS)(elem:TypeId)(e:Nat)(base:RV)(n:Nat)(c:RV):Option (RV×RS):=
 match base with
 |.ns=>bif Nat.ble n 100000000 then some (.o s.nx e 0 n false 0,⟨s.L,updR s.H s.nx (.blk elem (some e) (n*e) (dep (n*e)) (Tr.put (dep (n*e)) c (.lf .u) 0)),s.nx+1⟩) else none
 |.o l e' lo hi full z=>bif Nat.beq e e'&&okO s.H base&&Nat.beq z 0 then
   (match hq s.H l with
   |some (.blk ty _ nn _ tr)=>bif full then
      bif Nat.ble (hi-lo+n) 100000000&&Nat.ble lo hi&&Nat.blt lo hi then
       some (.o s.nx e 0 (hi-lo+n) false 0,⟨s.L,updR s.H s.nx (.blk elem (some e) ((hi-lo+n)*e) (dep ((hi-lo+n)*e)) (Tr.put (dep ((hi-lo+n)*e)) ((tr.cut ((hi-lo)*e) (lo*e)).app c) (.lf .u) 0)),s.nx+1⟩)
      else none
     else
      bif Nat.beq lo 0&&Nat.beq (hi*e) nn&&Nat.beq ty elem&&Nat.ble (hi+n) 100000000 then
       some (.o s.nx e 0 (hi+n) false 0,⟨s.L,updR (delR s.H l) s.nx (.blk elem (some e) ((hi+n)*e) (dep ((hi+n)*e)) (Tr.put (dep ((hi+n)*e)) c tr (hi*e))),s.nx+1⟩)
      else bif Nat.ble (hi*e+n*e) nn&&Nat.ble lo hi then
       (match hq s.H l with
       |some (.blk ty k nn d tr)=>bif Nat.ble nn (2 ^ d) then some (.o l e lo (hi+n) false 0,⟨s.L,updR s.H l (.blk ty k nn d (Tr.put d c tr (hi*e))),s.nx⟩) else none
       |_=>none)
      else none
   |_=>none)
  else none
 |_=>none
def q6d{k e:Nat}{olds:List Value}{N:Nat}(ha:olds.length=k)(hc:CellsAt k tr.get ρ olds.toArray)(ho:c.ones=true)(hN:k+c.len=N)(hd:N≤2 ^ d) :
  ∀ i,i<N→(olds++c.cl ρ)[i]?=some (((Tr.put d c tr k).get i).cv ρ)∧(((Tr.put d c tr k).get i).cv ρ).oneCell'=true:=fun i hi=>by
 rw[m5 (by omega) (by omega)];by_cases h1:i<k
 ·rw[if_neg (by omega),List.getElem?_append_left (by omega)];have:=hc.at_ i h1;rw[yxm] at this;exact this
 ·rw[if_pos ⟨by omega,by omega⟩,List.getElem?_append_right (by omega),ha];exact⟨r9 ρ (by omega),q20 (q1r ho (by omega)) ρ⟩
def z77{z base c v:RV}{n:Nat}{adr:Addr}(hT:ApT X.P t elem i z)(h:m_app1 s elem i.size base n c=some (v,s'))(h1:SAT X M ρ s.toS w)(hz:base.bd s.nx)
  (hn:0<n) (hy:c.len=n*i.size) (ho:c.ones=true) (hH:c.bd s.nx) (ha:∀ j u,(c.cl ρ)[j]?=some u→w.cell? (adr.add j)=some u) :
  DidR X M ρ s v s' ((do pure (Next.value (← Builtin.append_ #[t,t] ty #[base.cv ρ,.slice (some adr) n cap])):Sem Next).run X.P w):=by
 obtain⟨zv,_,h5,Hf⟩:=hT.zero;have h6:zv.cells.size=i.size:=by rw[Hf ρ];simp[j0,hT.zlen]
 have hK:∀ u∈c.cl ρ,u.oneCell'=true:=q5w ho ρ;have hp:(c.cl ρ).length=n*i.size:=by rw[j0,hy]
 have h7:=h1.below.size;have own:∀ {v0:Value} {k:Nat} {xs:List Value},w.ownsRow X.E.heap.size elem i.size v0 k xs→k+n≤100000000→∃ v' w',(Builtin.append_ #[t,t] ty #[v0,.slice (some adr) n cap]).run X.P w=.ok v' w' ∧
   w'.ownsRow X.E.heap.size elem i.size v' (k+n) (xs++c.cl ρ)∧w.grownBy w' v0.ownBlock∧(v'.ownBlock=v0.ownBlock∨v'.ownBlock=some w.heap.size):=fun {v0 k xs} ho hk=>by
  have Hh:(k+n)*i.bytes≤100000000*65536:=Nat.mul_le_mul hk hT.bytes;obtain⟨v',w',r1,r2,r3,_,r5⟩:=run_append_own_at (P:=X.P) w X.E.heap.size t ty elem i zv i.size i.bytes hT.und hT.info h5 rfl rfl h6 hT.pos v0 k xs ho adr n cap (c.cl ρ) hp ha hK (by simp only[maxLen];omega) (by omega) h7;exact⟨v',w',r1,r2,r3,r5⟩
 unfold m_app1 at h;split at h
 ·cases hg:Nat.ble n 100000000
  ·rw[hg] at h;cases h
  ·rw[hg,cond_true,yya,yyl] at h;obtain⟨rfl,rfl⟩:=h;have hg:=yyd hg;obtain⟨v',w',r1,r2,r3,r4⟩:=own (World.ownsRow_nil w X.E.heap.size elem i.size) (by omega);rw[yxq,List.nil_append] at r2;have he:=q6d (ρ:=ρ) (k:=0) (e:=i.size) (tr:=.lf .u) (d:=dep (n*i.size)) (olds:=[]) (N:=n*i.size) rfl ⟨yyw _,fun i hi=>by omega⟩ ho (by omega) (q2v _);refine q9i (row:=none) h1 r3 (fun b hb=>by cases hb) (fun l o hl=>⟨hl,fun _ _=>by simp⟩) hn r2 (fun b hb=>?_) (fun j hj=>?_) he ?_
   ·rcases r4 with r4|r4
    ·rw[hb] at r4;simp[Value.ownBlock] at r4
    ·rw[hb] at r4;injection r4 with r4;exact .inr (by omega)
   ·have hd:=q2v (n*i.size);rw[m5 (by omega) (by omega),if_pos (by omega)];exact m8 hH
   ·exact x3 r1
 ·rename_i l e' lo hi full zz;cases hJ:Nat.beq i.size e'&&okO s.H (.o l e' lo hi full zz)&&Nat.beq zz 0
  ·rw[hJ] at h;cases h
  ·rw[hJ,cond_true] at h;simp only[yyc] at hJ;obtain⟨⟨g1,g2⟩,g3⟩:=hJ;have g1:=yyg g1;have g3:=yyg g3;subst g1 g3;have hC:=q81 h1 g2;split at h
   ·rename_i bty k nn d tr hl;obtain⟨Hp,hL,h9⟩:=q0c h1 hl;simp only[RO.toHO,HO.ok,HO.bd] at h9 hL;obtain⟨hE,cs,hv,Hi,hM,hk⟩:=h9;have g2':=g2;simp only[okO,hl] at g2';cases k with
    |none=>simp at g2'
    |some e2=>
     simp only[yyc,Nat.beq_eq,Nat.blt_eq] at g2';obtain⟨⟨ge,gle⟩,gpos⟩:=g2';subst ge;have gle:=yyd gle;obtain⟨m0,cap0,Hj,Ha,hN,Hk,Hl⟩:=hk;have hh:(ρ.sv l).capN=cap0:=by rw[Hj];rfl
     have Hq:hi≤m0:=by rw[Ha] at gle;exact Nat.le_of_mul_le_mul_right gle gpos
     have Hb:m0*i.size≤cap0*i.size:=yy1 _ Hk;cases full with
     |true=>
      simp only[cond_true] at h;cases hg:Nat.ble (hi-lo+n) 100000000&&Nat.ble lo hi&&Nat.blt lo hi
      ·rw[hg] at h;cases h
      ·rw[hg,cond_true,yya,yyl] at h;obtain⟨rfl,rfl⟩:=h;simp only[yyc,Nat.blt_eq] at hg;have k1:=yyd hg.1.1;have k3:=hg.2;have Hm:lo*i.size+(hi-lo)*i.size=hi*i.size:=by rw[← yy8];congr 1;omega
       have hP:=z9l (ρ:=ρ) (c:=tr.get) (cs:=cs) (n:=nn) hM rfl (k:=(hi-lo)*i.size) (off:=lo*i.size) (by omega);have hw:=q9l (ρ:=ρ) (c:=tr.get) (cs:=cs) (n:=nn) ⟨Hi,hM⟩ rfl (k:=(hi-lo)*i.size) (off:=lo*i.size) (by omega);have hQ:(tr.cut ((hi-lo)*i.size) (lo*i.size)).bd s.nx:=q41 fun j _ hj=>hL j (by omega);have Hh:(hi-lo+n)*i.bytes≤100000000*65536:=Nat.mul_le_mul k1 hT.bytes;have hr:=run_append_grow (P:=X.P) w t ty elem i zv hT.und hT.info h5 ⟨ρ.blk l,lo*i.size,none⟩ (hi-lo) (hi-lo) ((tr.cut ((hi-lo)*i.size) (lo*i.size)).cl ρ) (by rw[j0,t7]) (fun j u hu=>?_) adr n cap (c.cl ρ) hp ha (by omega) (by omega) (growslice_fits (by omega) (by omega))
       ·have hR:(RV.o l i.size lo hi true 0).cv ρ=.slice (some ⟨ρ.blk l,lo*i.size,none⟩) (hi-lo) (hi-lo):=by simp only[RV.cv,if_true];rw[if_neg (by omega)]
        rw[hR];have hge:=grownCap_ge w (hi-lo+n) (hi-lo) elem;have hU:=grownCap_le_maxLen w (hi-lo+n) (hi-lo) elem (by simp only[maxLen];omega);have hall:((tr.cut ((hi-lo)*i.size) (lo*i.size)).app c).cl ρ=(tr.cut ((hi-lo)*i.size) (lo*i.size)).cl ρ++c.cl ρ:=q1e _ _ _;have hA:((tr.cut ((hi-lo)*i.size) (lo*i.size)).app c).len=(hi-lo+n)*i.size:=by rw[← j0 ρ,hall,yyx,j0,t7,hp,yy8]
        have hB:=q4b ho hw;have he:=q6d (ρ:=ρ) (k:=0) (e:=i.size) (c:=(tr.cut ((hi-lo)*i.size) (lo*i.size)).app c) (tr:=.lf .u) (d:=dep ((hi-lo+n)*i.size)) (olds:=[]) (N:=(hi-lo+n)*i.size) rfl ⟨yyw _,fun i hi=>by omega⟩ hB (by omega) (q2v _);have Hc:((tr.cut ((hi-lo)*i.size) (lo*i.size)).cl ρ++c.cl ρ).length=(hi-lo+n)*i.size:=by rw[← hall,j0,hA]
        refine q9i (row:=none) (xs:=(tr.cut ((hi-lo)*i.size) (lo*i.size)).cl ρ++c.cl ρ) h1 (w':=w.drew.alloc (Obj.cells ((RV.cl ρ (tr.cut ((hi-lo)*i.size) (lo*i.size))).toArray++(RV.cl ρ c).toArray++Builtin.zeroCells zv.cells (grownCap w (hi-lo+n) (hi-lo) elem-(hi-lo+n))) elem)) ⟨rfl,rfl,rfl,by simp,fun k hk _=>heap_alloc_old w.drew _ hk⟩ (fun b hb=>by cases hb) (fun l o hl=>⟨hl,fun _ _=>by simp⟩) (by omega)
         ⟨Hc,.inr ⟨w.heap.size,_,_,rfl,h7,heap_alloc_new w.drew _,hge,hU,?_,?_⟩⟩ (fun b hb=>?_) (fun j hj=>?_) (by rw[← hall];simpa using he) (x3 hr)
        ·simp only[Array.size_append,List.size_toArray,size_zeroCells,h6,j0,t7,hy,← yy8];congr 1;omega
        ·simp only[Array.toList_append,yxj];rw[← yxj,← Hc];exact List.take_left
        ·simp only[Value.ownBlock,yya] at hb;exact .inr (Nat.le_of_eq hb)
        ·have hd:=q2v ((hi-lo+n)*i.size);rw[m5 (by omega) (by omega),if_pos (by omega)];exact m8 (q0t hH hQ)
       ·rw[z6,x4 hv];rw[hP,yxl] at hu;split at hu
        ·simpa[List.getElem?_drop] using hu
        ·cases hu
     |false=>
      simp only[cond_false] at h;have hD:∀ {q:Nat},(RV.o l i.size 0 q false 0).cv ρ=.slice (some ⟨ρ.blk l,0,none⟩) q cap0:=fun {q}=>by simp[RV.cv,hh]
      cases hg:Nat.beq lo 0&&Nat.beq (hi*i.size) nn&&Nat.beq bty elem&&Nat.ble (hi+n) 100000000
      ·rw[hg,cond_false] at h;cases hF:Nat.ble (hi*i.size+n*i.size) nn&&Nat.ble lo hi
       ·rw[hF] at h;cases h
       ·rw[hF,cond_true] at h
        try simp only[hl] at h
        cases hW:Nat.ble nn (2 ^ d)
        ·rw[hW] at h;cases h
        ·rw[hW,cond_true,yya,yyl] at h;obtain⟨rfl,rfl⟩:=h;simp only[yyc] at hF;have q1:=yyd hF.1;have q2:=yyd hF.2;have q3:=yyd hW;obtain⟨w',e1,e2⟩:=q9h h1 hl hH ho (by rw[hy];exact q1) q3;have Hd:hi+n≤m0:=by rw[← yy8,Ha] at q1;exact Nat.le_of_mul_le_mul_right q1 gpos
         refine⟨ρ,w',.value _,?_,Env.upTo.refl _ _,yyo _,rfl,e2,hz,.inl rfl⟩;have hR:(RV.o l i.size lo hi false 0).cv ρ=.slice (some ⟨ρ.blk l,if cap0=lo then 0 else lo*i.size,none⟩) (hi-lo) (cap0-lo):=by simp only[RV.cv,hh,yyt,if_false]
         have hZ:(RV.o l i.size lo (hi+n) false 0).cv ρ=.slice (some ⟨ρ.blk l,if cap0=lo then 0 else lo*i.size,none⟩) (hi-lo+n) (cap0-lo):=by simp only[RV.cv,hh,yyt,if_false];congr 1;omega
         rw[hR,hZ,if_neg (show ¬ cap0=lo by omega)];refine x3 ?_;have Hn:(Builtin.firstCells i.size n (.slice (some adr) n cap)).run X.P w=.ok (c.cl ρ).toArray w:=run_firstCells_some w i.size n adr n cap (c.cl ρ) hp ha;have h0:lo*i.size+(hi-lo)*i.size=hi*i.size:=by rw[← yy8];congr 1;omega
         simp[Builtin.append_,run_underlying hT.und,Go.sizeOf,typeInfo,hT.info,Builtin.lenOf,show hi-lo+n≤cap0-lo by omega,Hn,z6,h0,e1]
      ·rw[hg,cond_true,yya,yyl] at h;obtain⟨rfl,rfl⟩:=h;simp only[yyc] at hg;obtain⟨⟨⟨q1,q2⟩,q3⟩,q4⟩:=hg;have q1:=yyg q1;have q2:=yyg q2;have q3:=yyg q3;have q4:=yyd q4;subst q1 q3;have h3:w.ownsRow X.E.heap.size bty i.size ((RV.o l i.size 0 hi false 0).cv ρ) hi (cs.toList.take (hi*i.size)):=⟨by simp;omega,.inr ⟨ρ.blk l,cap0,cs,hD,hE,hv,by omega,Hl,hN,rfl⟩⟩
       obtain⟨v',w',r1,r2,r3,r4⟩:=own h3 q4;have hG:(RO.blk bty (some i.size) nn d tr).toHO.at ρ l=some (ρ.blk l):=rfl;have Ho:((RV.o l i.size 0 hi false 0).cv ρ).ownBlock=some (ρ.blk l):=by rw[hD];rfl
       rw[Ho] at r3 r4;have He:lk (mapH s.H) l=some (RO.blk bty (some i.size) nn d tr).toHO:=lkH hl;have he:=q6d (ρ:=ρ) (k:=hi*i.size) (e:=i.size) (tr:=tr) (d:=dep ((hi+n)*i.size)) (olds:=cs.toList.take (hi*i.size)) (N:=(hi+n)*i.size) (by simp;omega)
        ⟨by simp;omega,fun j hj=>by rw[yxm,yxl,if_pos hj,yxz];exact hM j (by omega)⟩ ho (by rw[hy,yy8]) (q2v _)
       refine q9i (row:=some (ρ.blk l)) h1 r3 (fun b hb=>h1.row He b (by rw[hG];exact hb)) (fun m o hm=>?_) (by omega) r2 (fun b hb=>?_) (fun j hj=>?_) he (x3 r1)
       ·obtain⟨h4,hm⟩:=z9j hm;exact⟨hm,fun b hb hr=>h4 (h1.apart l m _ o b He hm (by rw[hG];exact hr) hb)⟩
       ·rcases r4 with r4|r4
        ·exact .inl (by rw[← r4];exact hb)
        ·rw[hb] at r4;injection r4 with r4;exact .inr (by omega)
       ·have hd:=q2v ((hi+n)*i.size);rw[m5 (by rw[hy,← yy8];exact hd) (by omega)];split
        ·exact m8 hH
        ·rename_i h4;exact hL j (by rw[hy,← yy8] at h4;omega)
   ·cases h
 ·cases h
def slOk(H:Hg):RV→Bool
 |.ns=>true
 |.s _ _ n c=>Nat.ble n c
 |.o l e lo hi f z=>okO H (.o l e lo hi f z)
 |_=>false
def slOk_ok(h1:SAT X M ρ s.toS w){x:RV}(h:slOk s.H x=true):∃ ad n c,x.cv ρ=.slice ad n c∧n≤c:=by
 cases x<;>simp only[slOk,yyt] at h
 case ns=>exact⟨_,_,_,rfl,yyo _⟩
 case s l off n c=>exact⟨_,_,_,rfl,yyd h⟩
 case o l e lo hi f z=>have:=q81 h1 h;exact⟨_,_,_,rfl,by omega⟩
def run_app0{t t' elem e' ty:TypeId}(hU:P.underlying t=some (.slice elem))(hi:P.info? elem=some i)(ha:P.underlying t'=some (.slice e')){ad ad':Option Addr}{n c c':Nat}(hn:n≤c) :
  (Builtin.append_ #[t,t'] ty #[.slice ad n c,.slice ad' 0 c']).run P w=.ok (.slice ad n c) w:=by
 have h0:(Builtin.firstCells i.size 0 (.slice ad' 0 c')).run P w=.ok #[] w:=by
  cases ad' with
  |none=>rfl
  |some q=>simp[Builtin.firstCells,loadCells,loadCellsFrom]
 cases ad<;>simp[Builtin.append_,run_underlying hU,run_underlying ha,Go.sizeOf,typeInfo,hi,Builtin.lenOf,hn,h0,storeCells]
def z94{kk k2:IntKind}{n:Int}(hT:ApT X.P t elem i z)(hu:X.P.underlying t'=some (.int k2))(h0:0<n)(hn:n≤100000000)(h1:SAT X M ρ s.toS w) :
  DidR X M ρ s (.o s.nx i.size 0 n.toNat false 0) ⟨s.L,updR s.H s.nx (.blk elem (some i.size) (n.toNat*i.size) (dep (n.toNat*i.size)) (Tr.put (dep (n.toNat*i.size)) (z.rep n.toNat) (.lf .u) 0)),s.nx+1⟩
   ((do pure (Next.value (← Builtin.append_ #[t,t'] ty #[.slice none 0 0,.int kk n])):Sem Next).run X.P w):=by
 obtain⟨zv,hJ,hv,hg⟩:=hT.zero;have hw:zv.cells.size=i.size:=by rw[hg ρ];simp[j0,hT.zlen]
 generalize hm:n.toNat=m;have hh:0<m:=by omega
 have hy:m≤100000000:=by omega
 have hK:m*i.bytes≤100000000*65536:=Nat.mul_le_mul hy hT.bytes;have hge:=grownCap_ge w m 0 elem;have ha:=grownCap_le_maxLen w m 0 elem (by simp only[maxLen];omega);have hz:IntKind.i64.wrap n=n:=IntWalk.i64_in n ⟨by omega,by omega⟩;have hA:Builtin.nextslicecap m 0*i.bytes≤281474976710656:=growslice_fits (by omega) (by omega);have hB:m*i.size≠0:=by have:=Nat.mul_pos hh hT.pos;omega
 have hC:(z.rep m).len=m*i.size:=by rw[q3b z ρ,hT.zlen]
 have hD:(Builtin.zeroCells zv.cells m).toList=(z.rep m).cl ρ:=by rw[q2y];have:=q03 m (z.cl ρ);rw[j0] at this;rw[hg ρ];simp only[Builtin.zeroCells,List.size_toArray,j0];simpa[j0] using this
 have hr:(Builtin.append_ #[t,t'] ty #[.slice none 0 0,.int kk n]).run X.P w=.ok (.slice (some ⟨w.heap.size,0,none⟩) m (grownCap w m 0 elem))
   (w.drew.alloc (.cells (Builtin.zeroCells zv.cells m++Builtin.zeroCells zv.cells (grownCap w m 0 elem-m)) elem)):=by
  have hE:¬ (9223372036854775807<(m:Int)):=by omega
  have hF:¬ (281474976710656<Builtin.nextslicecap m 0*i.bytes):=by omega
  have hG:¬ (281474976710656<n*(i.bytes:Int)):=by have:n*(i.bytes:Int)≤100000000*65536:=Int.mul_le_mul hn (by have:=hT.bytes;omega) (by omega) (by omega);omega
  have hH:¬ n<0:=by omega
  simp[Builtin.append_,run_underlying hT.und,run_underlying hu,Go.sizeOf,typeInfo,zeroValue,hT.info,hv,asInt,asIntOf,hz,hH,hG,hm,show ¬ m=0 by omega,hE,hF,hB,Builtin.firstCells,newRow,grownCap,Question.forced,show ¬ i.size=0 by have:=hT.pos;omega];rw[if_neg (by omega),if_neg (by omega)]
 have he:=q6d (ρ:=ρ) (k:=0) (e:=i.size) (c:=z.rep m) (tr:=.lf .u) (d:=dep (m*i.size)) (olds:=[]) (N:=m*i.size) rfl ⟨yyw _,fun i hi=>by omega⟩ (q1q hT.ones m) (by omega) (q2v _);have hp:((z.rep m).cl ρ).length=m*i.size:=by rw[j0,hC]
 refine q9i (row:=none) (xs:=(z.rep m).cl ρ) h1 (w':=w.drew.alloc (.cells (Builtin.zeroCells zv.cells m++Builtin.zeroCells zv.cells (grownCap w m 0 elem-m)) elem)) ⟨rfl,rfl,rfl,by simp,fun k hk _=>heap_alloc_old w.drew _ hk⟩
  (fun b hb=>by cases hb) (fun l o hl=>⟨hl,fun _ _=>by simp⟩) hh ⟨hp,.inr ⟨w.heap.size,_,_,rfl,h1.below.size,heap_alloc_new w.drew _,hge,ha,?_,?_⟩⟩ (fun b hb=>?_) (fun j hj=>?_) (by simpa using he) (x3 hr)
 ·simp only[Array.size_append,size_zeroCells,hw,← yy8];congr 1;omega
 ·rw[Array.toList_append,hD,← hp];exact List.take_left
 ·simp only[Value.ownBlock,yya] at hb;exact .inr (Nat.le_of_eq hb)
 ·have hd:=q2v (m*i.size);rw[m5 (by omega) (by omega),if_pos (by omega)];exact m8 (q2z (hT.bd _) m)
noncomputable def m_app(P:Program)(s:RS)(args:List Operand)(tys:List TypeId):Option (RV×RS):=
 match args with
 |[b,x]=>(match tys with
  |[t,t']=>(match apT P t with
   |some (elem,i,z)=>(match opv s.L b with
    |some base=>(match opv s.L x with
     |some y=>(match evS P (underlying t') with
      |some (.slice _)=>(match srcR s.H i.size y with
       |some (n,c)=>bif Nat.beq t t' then m_app1 s elem i.size base n c else none
       |none=>(match slN y with
        |some 0=>bif slOk s.H base then some (base,s) else none
        |_=>none))
      |some (.int _)=>(match base with
       |.ns=>(match y with
        |.i _ n=>bif decide (0<n)&&decide (n≤100000000) then
          some (.o s.nx i.size 0 n.toNat false 0,⟨s.L,updR s.H s.nx (.blk elem (some i.size) (n.toNat*i.size) (dep (n.toNat*i.size)) (Tr.put (dep (n.toNat*i.size)) (z.rep n.toNat) (.lf .u) 0)),s.nx+1⟩) else none
        |_=>none)
       |_=>none)
      |_=>none)
     |none=>none)
    |none=>none)
   |none=>none)
  |_=>none)
 |_=>none
def toNx(q:Sem Value):Sem Next:=do pure (Next.value (← q))
def m_app_ok{tys:Array TypeId}(h:m_app X.P s args.toList tys.toList=some (v,s'))(h1:SAT X M ρ s.toS w)(h2:REG X M ρ s.toS a) :
  DidR X M ρ s v s' ((toNx (Builtin.append_ tys ty (args.map a.eval))).run X.P w):=by
 have ha:(args.map a.eval)=(args.toList.map a.eval).toArray:=by rw[← yxi]
 unfold m_app at h;split at h
 ·rename_i b x hh;split at h
  ·rename_i t t' hj;have ht:tys=#[t,t']:=by rw[← Array.toArray_toList (xs:=tys),hj]
   rw[ha,hh,ht];simp only[yy2,List.map_nil];split at h
   ·rename_i elem i z hA;have hT:=apT_ok hA;split at h
    ·rename_i base hb;split at h
     ·rename_i y hy;have eb:=j5 h2 hb;have ey:=j5 h2 hy;rw[eb.2,ey.2];split at h
      ·rename_i e' hd;split at h
       ·rename_i n c he;cases hg:Nat.beq t t'
        ·rw[hg] at h;cases h
        ·rw[hg,cond_true] at h;have hg:=yyg hg;subst hg;obtain⟨k1,k2,k3,k4,adr,cap,k5,k6⟩:=z6d h1 he;rw[k5];exact z77 hT h h1 eb.1 k1 k2 k3 k4 k6
       ·split at h
        ·rename_i hn;cases hg:slOk s.H base
         ·rw[hg] at h;cases h
         ·rw[hg,cond_true,yya,yyl] at h;obtain⟨rfl,rfl⟩:=h;obtain⟨ad,c',e1⟩:=q93 hn ρ;obtain⟨ad2,n2,c2,e2,e3⟩:=slOk_ok h1 hg;refine⟨ρ,w,.value _,?_,Env.upTo.refl _ _,yyo _,rfl,h1,eb.1,.inl rfl⟩;refine x3 ?_;rw[e1,e2];exact run_app0 hT.und hT.info (z54 hd) e3
        ·cases h
      ·rename_i k2 hd;split at h
       ·split at h
        ·rename_i kk n;cases hg:decide (0<n)&&decide (n≤100000000)
         ·rw[hg] at h;cases h
         ·rw[hg,cond_true,yya,yyl] at h;obtain⟨rfl,rfl⟩:=h;simp only[yyc,yyq] at hg;exact z94 hT (z54 hd) hg.1 hg.2 h1
        ·cases h
       ·cases h
      ·cases h
     ·cases h
    ·cases h
   ·cases h
  ·cases h
 ·cases h
noncomputable def m_copy(P:Program)(s:RS)(args:List Operand)(tys:List TypeId):Option (RV×RS):=
 match args with
 |[b,x]=>(match tys with
  |[t,_]=>(match evS P (underlying t) with
   |some (.slice elem)=>(match evS P (Go.sizeOf elem) with
    |some size=>(match opv s.L b with
     |some dv=>(match opv s.L x with
      |some y=>(match slN dv with
       |some nd=>(match slN y with
        |some ny=>(match Nat.min ny nd with
         |0=>some (.i .i64 0,s)
         |k+1=>(match slB dv with
          |some (l,off,_)=>(match srcR s.H size y with
           |some (n,c)=>(match hq s.H l with
            |some (.blk ty kk nn d tr)=>bif Nat.beq n ny&&okO s.H dv&&Nat.ble (off+(k+1)*size) nn&&Nat.ble nn (2 ^ d)&&Nat.ble ((k+1)*size) c.len then
              some (.i .i64 (k+1:Nat),⟨s.L,updR s.H l (.blk ty kk nn d (Tr.put d (c.tk ((k+1)*size)) tr off)),s.nx⟩) else none
            |_=>none)
           |none=>none)
          |none=>none))
        |none=>none)
       |none=>none)
      |none=>none)
     |none=>none)
    |none=>none)
   |_=>none)
  |_=>none)
 |_=>none
def j0b(r:RV)(ρ:Env)(k:Nat):(r.tk k).len=min k r.len:=by rw[← j0 ρ,q43,yxh,j0]
def q8i:∀ {r:RV} {k:Nat},r.ones=true→(r.tk k).ones=true
 |.cons a r,k+1,h=>by simp only[RV.ones,yyc] at h;simp only[RV.tk,RV.ones,yyc];exact⟨h.1,q8i h.2⟩
 |.cons a r,0,h=>rfl
 |.i ..,k,_|.b _,k,_|.np,k,_|.ns,k,_|.fz,k,_|.nm,k,_|.u,k,_|.nil,k,_|.p ..,k,_|.s ..,k,_|.m _,k,_|.it _,k,_|.y _,k,_|.o ..,k,_|.f ..,k,_|.g _,k,_|.t _,k,_=>by cases k<;>rfl
def z74{tys:Array TypeId}(h:m_copy X.P s args.toList tys.toList=some (v,s'))(h1:SAT X M ρ s.toS w)(h2:REG X M ρ s.toS a) :
  DidR X M ρ s v s' ((toNx (Builtin.copy_ tys ty (args.map a.eval))).run X.P w):=by
 have ha:(args.map a.eval)=(args.toList.map a.eval).toArray:=by rw[← yxi]
 unfold m_copy at h;split at h
 ·rename_i b x hj;split at h
  ·rename_i t t' hp;have ht:tys=#[t,t']:=by rw[← Array.toArray_toList (xs:=tys),hp]
   rw[ha,hj,ht];simp only[yy2,List.map_nil];split at h
   ·rename_i elem hU;split at h
    ·rename_i size he;split at h
     ·rename_i dv hr;split at h
      ·rename_i y hy;have ed:=j5 h2 hr;have ey:=j5 h2 hy;rw[ed.2,ey.2];split at h
       ·rename_i nd hv;split at h
        ·rename_i ny hw;obtain⟨ad,cd,e1⟩:=q93 hv ρ;obtain⟨ay,cy,e2⟩:=q93 hw ρ;split at h
         ·rename_i hk;simp only[yya,yyl] at h;obtain⟨rfl,rfl⟩:=h;refine⟨ρ,w,.value _,?_,Env.upTo.refl _ _,yyo _,rfl,h1,trivial,.inl rfl⟩;refine x3 ?_;rw[e1,e2];have h0:(Builtin.firstCells size 0 (.slice ay ny cy)).run X.P w=.ok #[] w:=by
           cases ay with
           |none=>rfl
           |some q=>simp[Builtin.firstCells,loadCells,loadCellsFrom]
          cases ad<;>simp[Builtin.copy_,j8 hU,Builtin.lenOf,hk,j8 he,h0,storeCells,goInt,RV.cv]
         ·rename_i k hk;split at h
          ·rename_i l off nd2 hz;split at h
           ·rename_i n c hb;split at h
            ·rename_i bty kk nn d tr hl;cases hg:Nat.beq n ny&&okO s.H dv&&Nat.ble (off+(k+1)*size) nn&&Nat.ble nn (2 ^ d)&&Nat.ble ((k+1)*size) c.len
             ·rw[hg] at h;cases h
             ·rw[hg,cond_true,yya,yyl] at h;obtain⟨rfl,rfl⟩:=h;simp only[yyc] at hg;obtain⟨⟨⟨⟨g1,g2⟩,g3⟩,g4⟩,g5⟩:=hg;have g1:=yyg g1;have g3:=yyd g3;have g4:=yyd g4;have g5:=yyd g5;subst g1;obtain⟨_,k2,k3,k4,adr,cap,k5,k6⟩:=z6d h1 hb;obtain⟨_,cd',e3⟩:=z27 h1 hz g2;have hh:(c.tk ((k+1)*size)).len=(k+1)*size:=by rw[j0b c ρ];omega
              obtain⟨w',p1,p2⟩:=q9h h1 hl (q6k k4) (q8i k3) (by rw[hh];exact g3) g4;refine⟨ρ,w',.value _,?_,Env.upTo.refl _ _,yyo _,rfl,p2,trivial,.inl rfl⟩;refine x3 ?_;have hA:=run_firstCells_some (P:=X.P) w size (k+1) adr n cap ((c.tk ((k+1)*size)).cl ρ) (by rw[j0,hh]) (fun j u hu=>by
               rw[q43,yxl] at hu;split at hu
               ·exact k6 j u hu
               ·cases hu)
              have hd:nd2=nd:=by rw[e1] at e3;injection e3 with _ e _;exact e.symm
              rw[e3,k5,hd];simp[Builtin.copy_,j8 hU,Builtin.lenOf,hk,j8 he,hA,p1,goInt,RV.cv]
            ·cases h
           ·cases h
          ·cases h
        ·cases h
       ·cases h
      ·cases h
     ·cases h
    ·cases h
   ·cases h
  ·cases h
 ·cases h
noncomputable def m_clr(P:Program)(s:RS)(args:List Operand)(tys:List TypeId):Option (RV×RS):=
 match args with
 |[b]=>(match tys with
  |[t]=>(match evS P (underlying t) with
   |some (.slice elem)=>(match zR P elem with
    |some z=>(match opv s.L b with
     |some dv=>(match slN dv with
      |some 0=>some (.t .nil,s)
      |some (n+1)=>(match slB dv with
       |some (l,off,_)=>(match hq s.H l with
        |some (.blk ty kk nn d tr)=>bif okO s.H dv&&Nat.ble (off+(n+1)*z.len) nn&&Nat.ble nn (2 ^ d) then some (.t .nil,⟨s.L,updR s.H l (.blk ty kk nn d (Tr.put d (z.rep (n+1)) tr off)),s.nx⟩) else none
        |_=>none)
       |none=>none)
      |none=>none)
     |none=>none)
    |none=>none)
   |_=>none)
  |_=>none)
 |_=>none
def m_clr_ok{tys:Array TypeId}(h:m_clr X.P s args.toList tys.toList=some (v,s'))(h1:SAT X M ρ s.toS w)(h2:REG X M ρ s.toS a) :
  DidR X M ρ s v s' ((toNx (Builtin.clear_ tys ty (args.map a.eval))).run X.P w):=by
 have ha:(args.map a.eval)=(args.toList.map a.eval).toArray:=by rw[← yxi]
 unfold m_clr at h;split at h
 ·rename_i b hb;split at h
  ·rename_i t hd;have ht:tys=#[t]:=by rw[← Array.toArray_toList (xs:=tys),hd]
   rw[ha,hb,ht];simp only[yy2,List.map_nil];split at h
   ·rename_i elem hU;split at h
    ·rename_i z hz;obtain⟨z1,z2,zv,z3,z4,_⟩:=q8m hz ρ s.nx;split at h
     ·rename_i dv he;have ed:=j5 h2 he;rw[ed.2];split at h
      ·rename_i hn;simp only[yya,yyl] at h;obtain⟨rfl,rfl⟩:=h;obtain⟨ad,cd,e1⟩:=q93 hn ρ;refine⟨ρ,w,.value _,?_,Env.upTo.refl _ _,yyo _,rfl,h1,trivial,.inl rfl⟩;refine x3 ?_;rw[e1];cases ad<;>simp[Builtin.clear_,j8 hU,RV.cv,RV.cl]
      ·rename_i n hn;split at h
       ·rename_i l off n2 hh;split at h
        ·rename_i bty kk nn d tr hl;cases hg:okO s.H dv&&Nat.ble (off+(n+1)*z.len) nn&&Nat.ble nn (2 ^ d)
         ·rw[hg] at h;cases h
         ·rw[hg,cond_true,yya,yyl] at h;obtain⟨rfl,rfl⟩:=h;simp only[yyc] at hg;have g2:=yyd hg.1.2;have g3:=yyd hg.2;obtain⟨ad,cd,e1⟩:=q93 hn ρ;obtain⟨_,cd',e3⟩:=z27 h1 hh hg.1.1;have hj:n2=n+1:=by rw[e1] at e3;injection e3 with _ e _;exact e.symm
          obtain⟨w',p1,p2⟩:=q9h h1 hl (q2z z1 (n+1)) (q1q z2 (n+1)) (by rw[q3b z ρ];exact g2) g3;refine⟨ρ,w',.value _,?_,Env.upTo.refl _ _,yyo _,rfl,p2,trivial,.inl rfl⟩;refine x3 ?_;have hk:(Builtin.zeroCells zv.cells (n+1)).toList=(z.rep (n+1)).cl ρ:=by rw[q2y];have:=q03 (n+1) (z.cl ρ);rw[j0] at this;rw[z4];simp only[Builtin.zeroCells,List.size_toArray,j0];simpa[j0] using this
          rw[e3,hj];simp[Builtin.clear_,j8 hU,z3,hk,p1,RV.cv,RV.cl]
        ·cases h
       ·cases h
      ·cases h
     ·cases h
    ·cases h
   ·cases h
  ·cases h
 ·cases h
def z9h(h1:SAT X M ρ s.toS w){o:RO}{ob:Obj}(hd:o.toHO.bd (s.nx+1))(ha:∀ ρ':Env,o.toHO.at ρ' s.nx=some (ρ'.blk s.nx))
  (he:o.toHO.ok X M (ρ.with s.nx w.heap.size .nil Go.undef) s.nx (w.alloc ob)) (hv:v.bd (s.nx+1)) (hr:r=.ok (.value (v.cv (ρ.with s.nx w.heap.size .nil Go.undef))) (w.alloc ob)) :
  DidR X M ρ s v ⟨s.L,updR s.H s.nx (o),s.nx+1⟩ r:=
 ⟨_,_,_,hr,j9 ρ s.nx w.heap.size .nil Go.undef,yxf _,rfl,
  h1.newO (row:=none) (b:=w.heap.size) (World.grownBy_alloc w _ none) (fun b hb=>by cases hb) (fun l o hl=>⟨hl,fun _ _=>by simp⟩) (.inr (yyo _)) hd (by rw[ha];simp[Env.with]) he (by cases o<;>first|rfl|(have:=ha ρ;cases this)),hv,.inl rfl⟩
noncomputable def m_mkm(s:RS)(r:Option Operand):Option (RV×RS):=
 match r with
 |none=>some (.m s.nx,⟨s.L,updR s.H s.nx (.map [] 0),s.nx+1⟩)
 |some _=>none
def m_mkm_ok{r:Option Operand}(h:m_mkm s r=some (v,s'))(h1:SAT X M ρ s.toS w):DidR X M ρ s v s' ((toNx (Instr.makeMap t (r.map a.eval))).run X.P w):=by
 unfold m_mkm at h;split at h
 ·simp only[yya,yyl] at h;obtain⟨rfl,rfl⟩:=h;refine z9h (ob:=.map #[] 0) h1 (by simp[RO.toHO,HO.bd]) (fun _=>rfl) ?_ (yxd _) ?_
  ·simp only[RO.toHO,HO.ok,Env.with,if_true];exact⟨h1.below.size,#[],heap_alloc_new w _,rfl⟩
  ·refine x3 ?_;simp only[Instr.makeMap,Option.map_none,yye,run_newObj_alloc,yyb,yyf,RV.cv,Env.with,if_true]
 ·cases h
def q37(h1:SAT X M ρ s.toS w){l clk clk':Nat}{es es':Ents}{ms':Array MapEntry}(hl:hq s.H l=some (.map es clk))(hd:∀ x∈es',x.1.bd s.nx∧x.2.1.bd s.nx)(he:ms'.toList=es'.map (toME ρ)) :
  SAT X M ρ (⟨s.L,updR s.H l (.map es' clk'),s.nx⟩:RS).toS (w.putObj (ρ.blk l) (.map ms' clk')):=by
 obtain⟨_,_,hb⟩:=q0c h1 hl;simp only[RO.toHO,HO.ok] at hb;obtain⟨hE,ms,ha,_⟩:=hb;refine h1.updO hl (z0u _ _ _) rfl hd ?_;simp only[RO.toHO,HO.ok];exact⟨hE,ms',World.putObj_heap_same (yyj.1 ha).1,he⟩
def q77(h1:SAT X M ρ s.toS w){l clk:Nat}{es:Ents}(hl:hq s.H l=some (.map es clk)):∃ ms,w.heap[ρ.blk l]?=some (.map ms clk)∧ms.toList=es.map (toME ρ)∧∀ x∈es,x.1.bd s.nx∧x.2.1.bd s.nx:=by obtain⟨_,ha,hb⟩:=q0c h1 hl;simp only[RO.toHO,HO.ok,HO.bd] at hb ha;obtain⟨_,ms,e1,e2⟩:=hb;exact⟨ms,e1,e2,ha⟩
variable{es:Array MapEntry}
def q3x{r:Nat}(o:Obj)(hb:w.heap[r]?=some (.map es clk)):(setObj r o).run P w=.ok () (w.putObj r o):=by simp[setObj,Sem.run,hb,World.putObj]
def q2u{r:Nat}(hb:w.heap[r]?=some (.map es clk)):(getObj r).run P w=.ok (.map es clk) w:=by simp[getObj,Sem.run,hb]
def updE(f:RV×RV×Nat→RV×RV×Nat):Ents→Nat→Ents
 |[],_=>[]
 |x::r,0=>f x::r
 |x::r,j+1=>x::updE f r j
def q59{f:RV×RV×Nat→RV×RV×Nat}{g:MapEntry→MapEntry}(ha:∀ x,toME ρ (f x)=g (toME ρ x)):∀ {es:Ents} {j:Nat},(updE f es j).map (toME ρ)=(es.map (toME ρ)).modify j g
 |[],j=>by cases j<;>simp[updE]
 |x::r,0=>by simp[updE,ha]
 |x::r,j+1=>by simp only[updE,yy2,List.modify_succ_cons];rw[q59 ha]
def q58{f:RV×RV×Nat→RV×RV×Nat}{Q:RV×RV×Nat→Prop}(hf:∀ x,Q x→Q (f x)):∀ {es:Ents} {j:Nat},(∀ x∈es,Q x)→∀ x∈updE f es j,Q x
 |[],j,_,x,hx=>by cases j<;>simp[updE] at hx
 |y::r,0,h,x,hx=>by
  simp only[updE,yym] at hx;rcases hx with rfl|hx
  ·exact hf _ (h _ yyh)
  ·exact h _ (yyi _ hx)
 |y::r,j+1,h,x,hx=>by
  simp only[updE,yym] at hx;rcases hx with rfl|hx
  ·exact h _ yyh
  ·exact q58 hf (fun z hz=>h z (yyi _ hz)) x hx
def stayR(P:Program)(es:Ents)(j:Nat)(k:RV):Option RV:=
 match es[j]? with
 |some e=>(match e.1.sc with
  |some ov=>(match k.sc with
   |some nv=>fromS P (Instr.keyThatStays ov nv)
   |none=>none)
  |none=>none)
 |none=>none
def z23{es:Ents}{ms:Array MapEntry}(ha:ms.toList=es.map (toME ρ)){k k':RV}(h:stayR P es j k=some k') :
  (∀ n,k'.bd n)∧∃ e,es[j]?=some e∧ms[j]?=some (toME ρ e)∧∀ w,(Instr.keyThatStays ((((ms[j]?).map (·.key)).getD (k.cv ρ))) (k.cv ρ)).run P w=.ok (k'.cv ρ) w:=by
 unfold stayR at h;split at h
 ·rename_i e he;split at h
  ·rename_i ov hb;split at h
   ·rename_i nv hd;obtain⟨e1,e2⟩:=o7 h ρ;have hj:ms[j]?=some (toME ρ e):=by rw[← yxz,ha,List.getElem?_map,he];rfl
    refine⟨e1,e,he,hj,fun w=>?_⟩;rw[hj,q01 hd ρ];simp only[yxt,Option.getD_some,toME,q01 hb ρ];exact e2 w
   ·cases h
  ·cases h
 ·cases h
noncomputable def m_mup(P:Program)(s:RS)(t:TypeId)(m k x:Operand):Option (RV×RS):=
 match opv s.L m with
 |some (.m l)=>(match hq s.H l with
  |some (.map es clk)=>(match opv s.L k with
   |some kv=>(match opv s.L x with
    |some v=>(match keyR P t es false kv with
     |some (_,_,r)=>(match r with
      |some (j,_)=>(match stayR P es j kv with
       |some k'=>some (.u,⟨s.L,updR s.H l (.map (updE (fun e=>(k',v,e.2.2)) es j) clk),s.nx⟩)
       |none=>none)
      |none=>some (.u,⟨s.L,updR s.H l (.map (es++[(kv,v,clk)]) (clk+1)),s.nx⟩))
     |none=>none)
    |none=>none)
   |none=>none)
  |_=>none)
 |_=>none
def z3t{m k x:Operand}(h:m_mup X.P s t m k x=some (v,s'))(h1:SAT X M ρ s.toS w)(h2:REG X M ρ s.toS a) :
  DidR X M ρ s v s' ((do Instr.mapUpdate t (a.eval m) (a.eval k) (a.eval x);pure .skip:Sem Next).run X.P w):=by
 unfold m_mup at h;split at h
 ·rename_i l hm;split at h
  ·rename_i es clk hl;split at h
   ·rename_i kv hk;split at h
    ·rename_i u hu;have em:=j5 h2 hm;have ek:=j5 h2 hk;have eu:=j5 h2 hu;rw[em.2,ek.2,eu.2];obtain⟨ms,hh,ha,hd⟩:=q77 h1 hl;split at h
     ·rename_i kt et r hb;obtain⟨k1,k2,k3⟩:=q89 (ρ:=ρ) hb;split at h
      ·rename_i j ov;split at h
       ·rename_i k' hst;simp only[yya,yyl] at h;obtain⟨rfl,rfl⟩:=h;obtain⟨s1,e,s2,s3,s4⟩:=z23 ha hst;refine⟨ρ,_,.skip,?_,Env.upTo.refl _ _,yyo _,rfl,q37 (ms':=ms.modify j fun e=>{e with key:=k'.cv ρ,val:=u.cv ρ}) h1 hl (q58 (Q:=fun x=>x.1.bd s.nx∧x.2.1.bd s.nx) (fun x _=>⟨s1 _,eu.1⟩) hd) ?_,trivial,.inr ⟨rfl,rfl⟩⟩
        ·unfold Instr.mapUpdate;simp only[yye,k1,yyb,RV.cv,q2u hh,k2,ha,k3,mapRes,yxt,s4,q3x _ hh,yyf]
        ·rw[Array.toList_modify,ha];rw[q59 (g:=fun e=>{e with key:=k'.cv ρ,val:=u.cv ρ}) (fun x=>rfl)]
       ·cases h
      ·simp only[yya,yyl] at h;obtain⟨rfl,rfl⟩:=h;refine⟨ρ,_,.skip,?_,Env.upTo.refl _ _,yyo _,rfl,q37 (ms':=ms.push ⟨kv.cv ρ,u.cv ρ,clk⟩) (clk':=clk+1) h1 hl (fun x hx=>?_) ?_,trivial,.inr ⟨rfl,rfl⟩⟩
       ·unfold Instr.mapUpdate;simp only[yye,k1,yyb,RV.cv,q2u hh,k2,ha,k3,mapRes,Option.map_none,q3x _ hh,yyf]
       ·rcases yy3.1 hx with hx|hx
        ·exact hd x hx
        ·simp only[yy0] at hx;subst hx;exact⟨ek.1,eu.1⟩
       ·rw[Array.toList_push,ha,yx0];rfl
     ·cases h
    ·cases h
   ·cases h
  ·cases h
 ·cases h
noncomputable def m_men(P:Program)(s:RS)(t:TypeId)(m k:Operand):Option (RV×RS):=
 match opv s.L m with
 |some (.m l)=>(match hq s.H l with
  |some (.map es clk)=>(match opv s.L k with
   |some kv=>(match keyR P t es false kv with
    |some (_,et,r)=>(match r with
     |some (j,v)=>(match stayR P es j kv with
      |some k'=>(match es[j]? with
       |some e=>some (.t (.cons v (.cons (.i .i64 e.2.2) .nil)),⟨s.L,updR s.H l (.map (updE (fun e=>(k',e.2.1,e.2.2)) es j) clk),s.nx⟩)
       |none=>none)
      |none=>none)
     |none=>(match fromS P (zeroValue et) with
      |some z=>some (.t (.cons z (.cons (.i .i64 clk) .nil)),⟨s.L,updR s.H l (.map (es++[(kv,z,clk)]) (clk+1)),s.nx⟩)
      |none=>none))
    |none=>none)
   |none=>none)
  |_=>none)
 |_=>none
def m_men_ok{m k:Operand}(h:m_men X.P s t m k=some (v,s'))(h1:SAT X M ρ s.toS w)(h2:REG X M ρ s.toS a) :
  DidR X M ρ s v s' ((toNx (Instr.mapEntry t (a.eval m) (a.eval k))).run X.P w):=by
 unfold m_men at h;split at h
 ·rename_i l hm;split at h
  ·rename_i es clk hl;split at h
   ·rename_i kv hk;have em:=j5 h2 hm;have ek:=j5 h2 hk;rw[em.2,ek.2];obtain⟨ms,hh,ha,hd⟩:=q77 h1 hl;split at h
    ·rename_i kt et r hb;obtain⟨k1,k2,k3⟩:=q89 (ρ:=ρ) hb;split at h
     ·rename_i j ov;split at h
      ·rename_i k' hst;split at h
       ·rename_i e0 he;simp only[yya,yyl] at h;obtain⟨rfl,rfl⟩:=h;obtain⟨s1,e,s2,s3,s4⟩:=z23 ha hst;rw[he] at s2;injection s2 with s2;subst s2
        obtain⟨e',hg,hj⟩:=z3z hb;refine⟨ρ,_,.value _,?_,Env.upTo.refl _ _,yyo _,rfl,q37 (ms':=ms.modify j fun e=>{e with key:=k'.cv ρ}) h1 hl (q58 (f:=fun e=>(k',e.2.1,e.2.2)) (Q:=fun x=>x.1.bd s.nx∧x.2.1.bd s.nx) (fun x hx=>⟨s1 _,hx.2⟩) hd) ?_,⟨by rw[← hj];exact(hd e' hg).2,trivial,trivial⟩,.inl rfl⟩
        ·refine x3 ?_;unfold Instr.mapEntry;simp only[yye,k1,yyb,RV.cv,q2u hh,k2,ha,k3,mapRes,yxt,s4,q3x _ hh,yyf,RV.cl];simp[s3,toME,goInt]
        ·rw[Array.toList_modify,ha];rw[q59 (g:=fun e=>{e with key:=k'.cv ρ}) (fun x=>rfl)]
       ·cases h
      ·cases h
     ·split at h
      ·rename_i z hz;simp only[yya,yyl] at h;obtain⟨rfl,rfl⟩:=h;obtain⟨z1,z2⟩:=o7 hz ρ;refine⟨ρ,_,.value _,?_,Env.upTo.refl _ _,yyo _,rfl,q37 (ms':=ms.push ⟨kv.cv ρ,z.cv ρ,clk⟩) (clk':=clk+1) h1 hl (fun x hx=>?_) ?_,⟨z1 _,trivial,trivial⟩,.inl rfl⟩
       ·refine x3 ?_;unfold Instr.mapEntry;simp only[yye,k1,yyb,RV.cv,q2u hh,k2,ha,k3,mapRes,Option.map_none,z2,q3x _ hh,yyf,RV.cl];simp[goInt]
       ·rcases yy3.1 hx with hx|hx
        ·exact hd x hx
        ·simp only[yy0] at hx;subst hx;exact⟨ek.1,z1 _⟩
       ·rw[Array.toList_push,ha,yx0];rfl
      ·cases h
    ·cases h
   ·cases h
  ·cases h
 ·cases h
def fdE:Ents→Nat→Nat→Option Nat
 |[],_,_=>none
 |x::r,b,j=>bif Nat.beq x.2.2 b then some j else fdE r b (j+1)
def fdE_ok:∀ {es:Ents} {b j q:Nat},fdE es b j=some q→(es.map (toME ρ)).findIdx? (fun e=>(e.born:Int)==(b:Int))=some (q-j)∧j≤q
 |[],b,j,q,h=>by simp[fdE] at h
 |x::r,b,j,q,h=>by
  rw[fdE] at h;rw[yy2,List.findIdx?_cons];cases hb:Nat.beq x.2.2 b
  ·rw[hb,cond_false] at h;obtain⟨e1,e2⟩:=fdE_ok h;have ha:¬ x.2.2=b:=fun e=>by rw[e] at hb;simp at hb
   have:(((toME ρ x).born:Int)==(b:Int))=false:=by simp only[toME,beq_eq_false_iff_ne];omega
   rw[if_neg (by rw[this];simp),e1];exact⟨by simp only[yxt];congr 1;omega,by omega⟩
  ·rw[hb,cond_true,yya] at h;subst h;have:=yyg hb;rw[if_pos (by simp only[toME,beq_iff_eq];omega),Nat.sub_self];exact⟨rfl,yyo _⟩
noncomputable def m_mes(s:RS)(m st x:Operand):Option (RV×RS):=
 match opv s.L m with
 |some (.m l)=>(match hq s.H l with
  |some (.map es clk)=>(match opv s.L st with
   |some (.i _ b)=>(match opv s.L x with
    |some v=>(match fdE es b.toNat 0 with
     |some j=>bif decide (0≤b) then some (.u,⟨s.L,updR s.H l (.map (updE (fun e=>(e.1,v,e.2.2)) es j) clk),s.nx⟩) else none
     |none=>none)
    |none=>none)
   |_=>none)
  |_=>none)
 |_=>none
def m_mes_ok{m st x:Operand}(h:m_mes s m st x=some (v,s'))(h1:SAT X M ρ s.toS w)(h2:REG X M ρ s.toS a) :
  DidR X M ρ s v s' ((do Instr.entryStore t (a.eval m) (a.eval st) (a.eval x);pure .skip:Sem Next).run X.P w):=by
 unfold m_mes at h;split at h
 ·rename_i l hm;split at h
  ·rename_i es clk hl;split at h
   ·rename_i kk b hst;split at h
    ·rename_i u hu;split at h
     ·rename_i j hj;cases hg:decide (0≤b)
      ·rw[hg] at h;cases h
      ·rw[hg,cond_true,yya,yyl] at h;obtain⟨rfl,rfl⟩:=h;have hg:0≤b:=by simpa using hg
       have em:=j5 h2 hm;have es':=j5 h2 hst;have eu:=j5 h2 hu;obtain⟨ms,hh,ha,hb⟩:=q77 h1 hl;obtain⟨f1,_⟩:=fdE_ok (ρ:=ρ) hj;rw[Int.toNat_of_nonneg hg,← ha,← List.findIdx?_toArray,Array.toArray_toList,Nat.sub_zero] at f1;refine⟨ρ,_,.skip,?_,Env.upTo.refl _ _,yyo _,rfl,q37 (ms':=ms.modify j fun e=>{e with val:=u.cv ρ}) h1 hl (q58 (f:=fun e=>(e.1,u,e.2.2)) (Q:=fun x=>x.1.bd s.nx∧x.2.1.bd s.nx) (fun x hx=>⟨hx.1,eu.1⟩) hb) ?_,trivial,.inr ⟨rfl,rfl⟩⟩
       ·unfold Instr.entryStore;simp only[em.2,es'.2,eu.2,RV.cv,yye,q2u hh,yyb,asInt,asIntOf,yyf,f1,q3x _ hh]
       ·rw[Array.toList_modify,ha];rw[q59 (g:=fun e=>{e with val:=u.cv ρ}) (fun x=>rfl)]
     ·cases h
    ·cases h
   ·cases h
  ·cases h
 ·cases h
def q4t{α β:Type}(f:α→β):∀ (l:List α) (j:Nat),(l.map f).eraseIdx j=(l.eraseIdx j).map f
 |[],_=>rfl
 |_::_,0=>rfl
 |a::l,j+1=>by simp only[yy2,List.eraseIdx_cons_succ];rw[q4t f l j]
noncomputable def m_del(P:Program)(s:RS)(args:List Operand)(tys:List TypeId):Option (RV×RS):=
 match args with
 |[m,k]=>(match tys with
  |[t,_]=>(match opv s.L m with
   |some (.m l)=>(match hq s.H l with
    |some (.map es clk)=>(match opv s.L k with
     |some kv=>(match keyR P t es es.isEmpty kv with
      |some (_,_,r)=>(match r with
       |some (j,_)=>some (.t .nil,⟨s.L,updR s.H l (.map (es.eraseIdx j) clk),s.nx⟩)
       |none=>some (.t .nil,⟨s.L,updR s.H l (.map es clk),s.nx⟩))
      |none=>none)
     |none=>none)
    |_=>none)
   |_=>none)
  |_=>none)
 |_=>none
def m_del_ok{tys:Array TypeId}(h:m_del X.P s args.toList tys.toList=some (v,s'))(h1:SAT X M ρ s.toS w)(h2:REG X M ρ s.toS a) :
  DidR X M ρ s v s' ((toNx (Builtin.delete_ tys ty (args.map a.eval))).run X.P w):=by
 have ha:(args.map a.eval)=(args.toList.map a.eval).toArray:=by rw[← yxi]
 unfold m_del at h;split at h
 ·rename_i m k hj;split at h
  ·rename_i t t' hp;have ht:tys=#[t,t']:=by rw[← Array.toArray_toList (xs:=tys),hp]
   rw[ha,hj,ht];simp only[yy2,List.map_nil];split at h
   ·rename_i l hm;split at h
    ·rename_i es clk hl;split at h
     ·rename_i kv hk;have em:=j5 h2 hm;have ek:=j5 h2 hk;rw[em.2,ek.2];obtain⟨ms,hh,hb,hg⟩:=q77 h1 hl;have he:ms.isEmpty=es.isEmpty:=by
       have:ms.size=es.length:=by rw[← Array.length_toList,hb,yx4]
       cases es<;>simp_all[Array.isEmpty]
      split at h
      ·rename_i kt et r hd;obtain⟨k1,k2,k3⟩:=q89 (ρ:=ρ) hd;split at h
       ·rename_i j ov;simp only[yya,yyl] at h;obtain⟨rfl,rfl⟩:=h;refine⟨ρ,_,.value _,?_,Env.upTo.refl _ _,yyo _,rfl,q37 (ms':=ms.eraseIdxIfInBounds j) h1 hl (fun x hx=>hg x (List.mem_of_mem_eraseIdx hx)) ?_,trivial,.inl rfl⟩
        ·refine x3 ?_;simp[Builtin.delete_,k1,RV.cv,q2u hh,he,k2,hb,k3,mapRes,q3x _ hh,RV.cl]
        ·rw[Array.toList_eraseIdxIfInBounds,hb,q4t]
       ·simp only[yya,yyl] at h;obtain⟨rfl,rfl⟩:=h;refine⟨ρ,_,.value _,?_,Env.upTo.refl _ _,yyo _,rfl,q37 (ms':=ms) h1 hl hg hb,trivial,.inl rfl⟩;refine x3 ?_;simp[Builtin.delete_,k1,RV.cv,q2u hh,he,k2,hb,k3,mapRes,q3x _ hh,RV.cl]
      ·cases h
     ·cases h
    ·cases h
   ·cases h
  ·cases h
 ·cases h
noncomputable def m_rng(P:Program)(s:RS)(t:TypeId)(x:Operand):Option (RV×RS):=
 match opv s.L x with
 |some (.m l)=>(match hq s.H l with
  |some (.map _ clk)=>(match evS P (underlying t) with
   |some (.map _ _)=>some (.it s.nx,⟨s.L,updR s.H s.nx (.iter l clk [] clk none),s.nx+1⟩)
   |_=>none)
  |_=>none)
 |_=>none
def m_rng_ok(h:m_rng X.P s t x=some (v,s'))(h1:SAT X M ρ s.toS w)(h2:REG X M ρ s.toS a):DidR X M ρ s v s' ((toNx (Instr.range t (a.eval x))).run X.P w):=by
 unfold m_rng at h;split at h
 ·rename_i l hx;split at h
  ·rename_i es clk hl;split at h
   ·rename_i hU;simp only[yya,yyl] at h;obtain⟨rfl,rfl⟩:=h;obtain⟨ms,hh,ha,hb⟩:=q77 h1 hl;have hd:=(q0c h1 hl).1;refine z9h (ob:=.mapIter (some (ρ.blk l)) clk #[] clk) h1 (by simp only[RO.toHO,HO.bd];omega) (fun _=>rfl) ?_ (yxd _) ?_
    ·simp only[RO.toHO,HO.ok,Env.with,if_true];refine⟨h1.below.size,#[],?_,List.Perm.refl _,fun x hx=>by cases hx⟩;rw[if_neg (by omega)];exact heap_alloc_new w _
    ·refine x3 ?_;simp only[Instr.range,(j5 h2 hx).2,yye,j8 hU,yyb,RV.cv,q2u hh,run_newObj_alloc,yyf,Env.with,if_true]
   ·cases h
  ·cases h
 ·cases h
variable {QA:Exit→S→Prop}{all l:List Oper}{o:Oper}{md:Bool}
noncomputable def m_bsl'(P:Program)(s:RS)(t:TypeId)(n:Nat)(ps:List (Nat×Operand)):Option (RV×RS):=
 match n with
 |0=>match ps with
  |[]=>m_bsl0 P s t
  |_=>none
 |n+1=>m_bsl P s t (n+1) ps
noncomputable def m_call(P:Program)(s:RS)(c:Call):Option (RV×RS):=
 match c.callee with
 |.builtin b=>(match b with
  |.append=>m_app P s c.args.toList c.argTypes.toList
  |.copy=>m_copy P s c.args.toList c.argTypes.toList
  |.clear=>m_clr P s c.args.toList c.argTypes.toList
  |.delete=>m_del P s c.args.toList c.argTypes.toList
  |_=>none)
 |_=>none
noncomputable def evM0(P:Program)(s:RS)(o:Op):Option (RV×RS):=
 match o with
 |.store t x y=>m_store P s t x y
 |.alloc t=>m_alloc P s t
 |.box t x=>m_box s t x
 |.buildSlice t n ps=>m_bsl' P s t n ps.toList
 |.makeSlice t x c=>m_mks P s t x c
 |.makeMap _ r=>m_mkm s r
 |.mapUpdate t m k x=>m_mup P s t m k x
 |.insert t m k x=>m_mup P s t m k x
 |.mapEntry t m k=>m_men P s t m k
 |.entryStore _ m st x=>m_mes s m st x
 |.range t x=>m_rng P s t x
 |.call c=>m_call P s c
 |_=>none
noncomputable def evM(P:Program)(s:RS)(o:Op):Option (RV×RS):=Op.casesOn (motive:=fun _=>Program→RS→Option (RV×RS)) o (fun _=>fun _ _=>none) (fun _=>fun _ _=>none) (fun _ _ _=>fun _ _=>none) (fun a0=>fun P s=>m_alloc P s a0) (fun a0 a1=>fun _ s=>m_box s a0 a1) (fun _ _=>fun _ _=>none) (fun a0 a1 a2=>fun P s=>m_bsl' P s a0 a1 a2.toList) (fun a0 a1 a2 a3=>fun P s=>m_mup P s a0 a1 a2 a3) (fun _ _=>fun _ _=>none) (fun a0 a1 a2=>fun P s=>m_store P s a0 a1 a2) (fun _=>fun _ _=>none) (fun _=>fun _ _=>none) (fun _=>fun _ _=>none) (fun _ _ _ _ _=>fun _ _=>none) (fun _ _ _=>fun _ _=>none) (fun _ _ _=>fun _ _=>none) (fun _ _=>fun _ _=>none) (fun _ _=>fun _ _=>none) (fun _ _ _=>fun _ _=>none) (fun a0 a1=>fun _ s=>m_mkm s a1) (fun _ _=>fun _ _=>none) (fun a0 a1 a2=>fun P s=>m_mks P s a0 a1 a2) (fun _ _ _ _ _=>fun _ _=>none) (fun _ _ _=>fun _ _=>none) (fun _ _ _=>fun _ _=>none) (fun _ _ _=>fun _ _=>none) (fun _ _ _=>fun _ _=>none) (fun _ _ _ _=>fun _ _=>none) (fun a0 a1 a2 a3=>fun P s=>m_mup P s a0 a1 a2 a3) (fun a0 a1 a2=>fun P s=>m_men P s a0 a1 a2) (fun a0 a1 a2 a3=>fun _ s=>m_mes s a1 a2 a3) (fun a0 a1=>fun P s=>m_rng P s a0 a1) (fun _ _=>fun _ _=>none) (fun _=>fun _ _=>none) (fun _ _ _ _=>fun _ _=>none) (fun _ _=>fun _ _=>none) (fun a0=>fun P s=>m_call P s a0) (fun _=>fun _ _=>none) (fun _=>fun _ _=>none) (fun _=>fun _ _=>none) (fun _ _=>fun _ _=>none) (fun _ _ _=>fun _ _=>none) (fun _ _=>fun _ _=>none) P s
def z87(P:Program)(s:RS)(o:Op):evM P s o=evM0 P s o:=by cases o<;>rfl
def z76{n:Nat}{ps:Array (Nat×Operand)}(h:m_bsl' X.P s t n ps.toList=some (v,s'))(h1:SAT X M ρ s.toS w)(h2:REG X M ρ s.toS a) :
  DidR X M ρ s v s' ((do pure (Next.value (← Instr.buildSlice t n (ps.map fun(i,x)=>(i,a.eval x)))):Sem Next).run X.P w):=by
 unfold m_bsl' at h;split at h
 ·split at h
  ·rename_i hp;have:ps=#[]:=by rw[← Array.toArray_toList (xs:=ps),hp]
   subst this;rw[Array.map_empty];exact z75 h h1
  ·cases h
 ·exact m_bsl_ok h h1 h2
def evM_ok(h:evM X.P s o.op=some (v,s')):Dd X s o v s'∧notDef o.op=true:=by
 obtain⟨dst,op,ty,pos,after,guard⟩:=o;simp only[z87] at h ⊢;refine⟨fun M ρ a w h1 h2=>?_,by cases op<;>first|rfl|(simp[evM0] at h)⟩;cases op<;>simp only[evM0,reduceCtorEq] at h
 case store t x y=>exact z5b h h1 h2
 case alloc t=>exact z5c h h1
 case box t x=>exact m_box_ok h h1 h2
 case buildSlice t n ps=>exact z76 h h1 h2
 case makeSlice t x c=>exact m_mks_ok h h1 h2
 case makeMap t r=>exact m_mkm_ok h h1
 case mapUpdate t m k x=>exact z3t h h1 h2
 case insert t m k x=>exact z3t h h1 h2
 case mapEntry t m k=>exact m_men_ok h h1 h2
 case entryStore t m st x=>exact m_mes_ok h h1 h2
 case range t x=>exact m_rng_ok h h1 h2
 case call c=>
  obtain⟨callee,args,argTypes⟩:=c;unfold m_call at h;simp only at h;split at h
  ·have go:∀ {q:Array TypeId→TypeId→Array Value→Sem Value} {b:Builtin},(∀ ats ty cs vs,builtin b ats ty cs vs=toNx (q ats ty vs))→DidR X M ρ s v s' ((toNx (q argTypes ty (args.map a.eval))).run X.P w) →
     DidR X M ρ s v s' ((execOp a.eval ⟨dst,.call ⟨.builtin b,args,argTypes⟩,ty,pos,after,guard⟩).run X.P w):=fun hq hd=>by
    simp only[execOp,resolve,yye,yyf,yyb,invoke,hq];exact hd
   split at h
   ·exact go (q:=Builtin.append_) (fun _ _ _ _=>rfl) (m_app_ok h h1 h2)
   ·exact go (q:=Builtin.copy_) (fun _ _ _ _=>rfl) (z74 h h1 h2)
   ·exact go (q:=Builtin.clear_) (fun _ _ _ _=>rfl) (m_clr_ok h h1 h2)
   ·exact go (q:=Builtin.delete_) (fun _ _ _ _=>rfl) (m_del_ok h h1 h2)
   ·cases h
  ·cases h
def Sub(sm:List (Nat×RV))(L:Rg):Prop:=∀ d v,lk sm d=some v→L.get d=v∧isNl v=false
def q8l{L:Rg}{sm:List (Nat×RV)}{H:Hg}{n:Nat}(h1:SAT X M ρ (⟨L,H,n⟩:FS).toS w):SAT X M ρ (⟨sm,H,n⟩:RS).toS w:=h1.sub (fun _ _ h=>h) (yyo _)
def FS.reg{L:Rg}{sm:List (Nat×RV)}{H:Hg}{n:Nat}(hs:Sub sm L)(h2:REG X M ρ (⟨L,H,n⟩:FS).toS a):REG X M ρ (⟨sm,H,n⟩:RS).toS a:=
 ⟨h2.size,h2.defers,fun d v hd=>by
  have ha:lk (mapR sm) d=some v:=hd;rw[q5k] at ha;cases hl:lk sm d with
  |none=>rw[hl] at ha;cases ha
  |some x=>rw[hl] at ha;simp only[yxt,yya] at ha;subst ha;obtain⟨e1,e2⟩:=hs d x hl;exact h2.reg d _ (x7 e1 e2)⟩
def z4q{L':List (Nat×AV)}{H':List (Nat×HO)}{n':Nat}{s:S}(eH:s.H=H')(en:s.nx=n')(hL:∀ d v,lk L' d=some v→lk s.L d=some v):JW X ⟨L',H',n'⟩ s:=fun M ρ a w h1 h2=>by subst eH;subst en;exact⟨ρ,h1.sub (fun _ _ h=>h) (yyo _),⟨h2.size,h2.defers,fun d v hd=>h2.reg d v (hL d v hd)⟩⟩
def JW.subF{L':List (Nat×AV)}{s:S}(hL:∀ d v,lk L' d=some v→lk s.L d=some v):JW X ⟨L',s.H,s.nx⟩ s:=fun M ρ a w h1 h2=>⟨ρ,h1.sub (fun _ _ h=>h) (yyo _),⟨h2.size,h2.defers,fun d v hd=>h2.reg d v (hL d v hd)⟩⟩
def PutR(d:Option Nat)(v:RV)(L L':Rg):Prop:=∀ e,isNl (L'.get e)=false→(d=some e∧L'.get e=v)∨(d≠some e∧L'.get e=L.get e)
def z0c{d:Option Nat}{L L':Rg}{H:Hg}{n:Nat}(h:PutR d v L L'):JW X (⟨L',H,n⟩:FS).toS (putS d (.raw v) (⟨L,H,n⟩:FS).toS):=by
 refine z4q (s:=putS d (.raw v) (⟨L,H,n⟩:FS).toS) (by cases d<;>rfl) (by cases d<;>rfl) fun e x hx=>?_;obtain⟨e1,e2⟩:=p5 hx;rcases h e e2 with⟨rfl,q⟩|⟨q1,q⟩
 ·show lk ((e,AV.raw v)::mapT L) e=some x;rw[lk,if_pos rfl,e1,q]
 ·have:lk (mapT L) e=some x:=by rw[e1,q];exact x7 rfl (by rw[← q];exact e2)
  cases d with
  |none=>exact this
  |some d=>show lk ((d,AV.raw v)::mapT L) e=some x;rw[lk,if_neg (fun c=>q1 (by rw[c]))];exact this
def gdT(all:List Oper)(L:Rg):Option (Nat×Bool)→Option Bool
 |none=>some true
 |some (j,want)=>match all[j]? with
  |some o=>(match o.dst with
   |some d=>(match L.get d with
    |.b x=>some (wantB want x)
    |.u=>some false
    |_=>none)
   |none=>none)
  |none=>none
def regT{L:Rg}{H:Hg}{n:Nat}(h2:REG X M ρ (⟨L,H,n⟩:FS).toS a)(h:L.get d=v)(hn:isNl v=false):v.bd n∧a.tmps.getD d Go.undef=v.cv ρ:=by have:=h2.reg d _ (x7 h hn);simp only[AV.bd,AV.rv] at this;exact this
def q1a{L:Rg}{H:Hg}{n:Nat}(h:gdT all L o.guard=some g)(h2:REG X M ρ (⟨L,H,n⟩:FS).toS a):Region.wanted o (yielded all.toArray a.tmps)=g:=by
 unfold gdT at h;split at h
 ·rename_i hg;simp only[yya] at h;subst h;exact k7 hg
 ·rename_i j want hg;simp only[Region.wanted,hg,yielded,yxm];split at h
  ·rename_i oj hj;split at h
   ·rename_i d hd;split at h
    ·rename_i x hl;simp only[yya] at h;subst h;have e:=(regT h2 hl rfl).2;simp only[RV.cv] at e;rw[yyy] at e;cases hh:a.tmps[d]? with
     |none=>rw[hh] at e;simp[Go.undef] at e
     |some v=>rw[hh] at e;simp only[Option.getD_some] at e;subst e;simp only[hj,Option.bind_some,hd,hh];cases want<;>cases x<;>rfl
    ·rename_i hl;simp only[yya] at h;subst h;have e:=(regT h2 hl rfl).2;simp only[RV.cv] at e;rw[yyy] at e;simp only[hj,Option.bind_some,hd];cases hh:a.tmps[d]? with
     |none=>simp
     |some v=>rw[hh] at e;simp only[Option.getD_some] at e;subst e;simp[Go.undef]
    ·cases h
   ·cases h
  ·cases h
def dstB(n:Nat):Option Nat→Bool
 |none=>true
 |some d=>Nat.blt d n
def q35{n:Nat}{d:Option Nat}(h:dstB n d=true):∀ k,d=some k→k<n:=fun k e=>by subst e;simpa[dstB] using h
variable {L:Rg}{H:Hg}{n:Nat}{sm:List (Nat×RV)}
variable {L':Rg}
def q7o(hp:PutR o.dst v L L')(k:JL X true all QA l (⟨L',H,n⟩:FS).toS):JL X true all QA l (putS o.dst (.raw v) (⟨L,H,n⟩:FS).toS):=q1t (z0c hp) k
def JL.fq(hs:Sub sm L)(hg:gdT all L o.guard=some true)(h:evR X.P ⟨sm,H,n⟩ o.op=some v)(hd:dstB X.n o.dst=true)(hp:PutR o.dst v L L')(k:JL X true all QA l (⟨L',H,n⟩:FS).toS):JL X true all QA (o::l) (⟨L,H,n⟩:FS).toS:=by intro M ρ a w h1 h2;obtain⟨hy,hn⟩:=evR_ok (X:=X) (o:=o) h;obtain⟨e1,e2⟩:=hy M ρ a w (q8l h1) (FS.reg hs h2);exact z9 (q1a hg h2) (w8 hn (e2 w (Below.refl _ _)) (q7o hp k M ρ _ w (z7 h1) (h2.putO (q35 hd) e1 rfl)))
def JL.fm(hs:Sub sm L)(hg:gdT all L o.guard=some true)(h:evM X.P ⟨sm,H,n⟩ o.op=some (v,s'))(hd:dstB X.n o.dst=true)(hp:PutR o.dst v L L')(k:JL X true all QA l (⟨L',s'.H,s'.nx⟩:FS).toS):JL X true all QA (o::l) (⟨L,H,n⟩:FS).toS:=by
 intro M ρ a w h1 h2;obtain⟨hy,hn⟩:=evM_ok (X:=X) (o:=o) h;obtain⟨ρ',w',nn,e1,e2,e3,e4,e5,e6,e7⟩:=hy M ρ a w (q8l h1) (FS.reg hs h2);have e5':SAT X M ρ' (⟨L,s'.H,s'.nx⟩:FS).toS w':=e5.sub (fun _ _ h=>h) (yyo _);have ha:REG X M ρ' (⟨L,s'.H,s'.nx⟩:FS).toS a:=by have:=h2.grow (H':=(mapH s'.H)) (nx':=s'.nx) (Mem.le_refl M) e2 e3 (u9 M);exact⟨this.size,this.defers,fun d v hd=>this.reg d v hd⟩
 have k':=q7o hp k;rcases e7 with rfl|⟨rfl,rfl⟩
 ·exact z9 (q1a hg h2) (w8 hn e1 (k' M ρ' _ w' (z7 e5') (ha.putO (q35 hd) e6 rfl)))
 ·exact z9 (q1a hg h2) (q5d hn e1 (k' M ρ' _ w' (z7 e5') (ha.putO (q35 hd) trivial rfl)))
def JL.ff(hg:gdT all L o.guard=some false)(hd:dstB X.n o.dst=true)(hp:PutR o.dst .u L L')(k:JL X true all QA l (⟨L',H,n⟩:FS).toS):JL X true all QA (o::l) (⟨L,H,n⟩:FS).toS:=by intro M ρ a w h1 h2;exact q0o (q1a hg h2) (q7o hp k M ρ _ w (z7 h1) (h2.putO (q35 hd) trivial rfl))
def JL.fmv(hb:o.op=.move x∨o.op=.assign x)(hg:gdT all L o.guard=some true)(hd:dstB X.n o.dst=true)(hp:PutR o.dst .nil L L')(k:JL X true all QA l (⟨L',H,n⟩:FS).toS):JL X true all QA (o::l) (⟨L,H,n⟩:FS).toS:=by
 intro M ρ a w h1 h2;have hn:notDef o.op=true:=by rcases hb with h|h<;>rw[h]<;>rfl
 have hx:(execOp a.eval o).run X.P w=.ok (.value (a.eval x)) w:=by obtain⟨dst,op,ty,pos,after,guard⟩:=o;rcases hb with h|h<;>(simp only at h;subst h;simp only[execOp,yyf])
 refine z9 (q1a hg h2) (w8 hn hx (k M ρ _ w (h1.sub (fun _ _ h=>h) (yyo _)) ?_));have he:(a.put o.dst (a.eval x)).tmps.size=X.n∧(a.put o.dst (a.eval x)).defers=a.defers:=by
  cases o.dst with
  |none=>exact⟨h2.size,rfl⟩
  |some d=>exact⟨by simp[Act.put,h2.size],rfl⟩
 refine⟨he.1,by rw[he.2];exact h2.defers,fun e v hv=>?_⟩;have hh:lk (mapT L') e=some v:=hv;obtain⟨e1,e2⟩:=p5 hh;rcases hp e e2 with⟨_,q⟩|⟨q1,q⟩
 ·rw[q] at e2;cases e2
 ·have:=h2.reg e v (by show lk (mapT L) e=_;rw[e1,q];exact x7 rfl (by rw[← q];exact e2));refine⟨this.1,?_⟩;have hgd:(a.put o.dst (a.eval x)).tmps.getD e Go.undef=a.tmps.getD e Go.undef:=by
   cases ha:o.dst with
   |none=>rfl
   |some d=>have hj:d≠e:=fun c=>q1 (by rw[ha,c]);simp[Act.put,yyy,yxv,hj]
  rw[hgd];exact this.2
def JC.fc{c d:Code}(hs:Sub sm L)(hb:opv sm x=some (.b b))(k:JC X (bif b then c else d) QA (⟨L,H,n⟩:FS).toS):JC X (.cond x c d) QA (⟨L,H,n⟩:FS).toS:=by
 intro M ρ a w h1 h2;refine wpIn_cond (t:=b) (j5 (s:=⟨sm,H,n⟩) (FS.reg hs h2) hb).2 ?_;cases b
 ·exact k M ρ a w h1 h2
 ·exact k M ρ a w h1 h2
end
end Ox
namespace Ox
open Go Go.RowKit
variable {X:Ctx}{s s':S}{QA:Exit→S→Prop}{all l:List Oper}{md:Bool}
def JWc(X:Ctx)(QA:Exit→S→Prop):Prop:=∀ e s s',JW X s s'→QA e s→QA e s'
def cl(X:Ctx)(QA:Exit→S→Prop)(e:Exit)(s:S):Prop:=∃ s',JW X s' s∧QA e s'
def z5l{e:Exit}(h:QA e s):cl X QA e s:=⟨s,JW.refl s,h⟩
def q1c:JWc X (cl X QA):=fun _ _ _ hw ⟨s1,h1,h2⟩=>⟨s1,h1.trans hw,h2⟩
def JC.cl{c:Code}(h:JC X c (cl X QA) s):JC X c QA s:=fun M ρ a w h1 h2=>by refine wpIn_mono (h M ρ a w h1 h2) ?_;rintro e a' w' ⟨M',ρ',s',k1,k2,s'',hw,hq⟩;obtain⟨ρ'',e1,e2⟩:=hw M' ρ' a' w' k1 k2;exact⟨M',ρ'',s'',e1,e2,hq⟩
end Ox
namespace Ox
open Go Go.RowKit
noncomputable section
variable {X:Ctx}{s s':RS}{M:Mem}{ρ:Env}{a:Act}{w w':World}{P:Program}{QA:Exit→S→Prop}{all l:List Oper}{o:Oper}{md:Bool}
def RV.toAs:RV→AV
 |.cons a r=>.acons (.raw a) r.toAs
 |_=>.anil
def q1p(M:Mem)(ρ:Env):∀ r:RV,r.toAs.rvs M ρ (r.cl ρ)
 |.cons a r=>by simp only[RV.toAs,RV.cl,AV.rvs,AV.rv];exact⟨_,_,rfl,q1p M ρ r,rfl⟩
 |.i ..|.b _|.np|.ns|.fz|.nm|.u|.nil|.p ..|.s ..|.m _|.it _|.y _|.o ..|.f ..|.g _|.t _=>by simp only[RV.toAs,RV.cl,AV.rvs]
def q3a{n:Nat}:∀ {r:RV},r.bd n→r.toAs.bd n
 |.cons a r,h=>⟨h.1,q3a h.2⟩
 |.i ..,_|.b _,_|.np,_|.ns,_|.fz,_|.nm,_|.u,_|.nil,_|.p ..,_|.s ..,_|.m _,_|.it _,_|.y _,_|.o ..,_|.f ..,_|.g _,_|.t _,_=>trivial
def argR:RV→Nat→List (Nat×RV)
 |.cons a r,j=>(j,a)::argR r (j+1)
 |_,_=>[]
def q7f:∀ (r:RV) (j:Nat),argL r.toAs j=mapR (argR r j)
 |.cons a r,j=>by simp only[RV.toAs,argL,argR,mapR,yy2];rw[q7f r (j+1)];rfl
 |.i ..,_|.b _,_|.np,_|.ns,_|.fz,_|.nm,_|.u,_|.nil,_|.p ..,_|.s ..,_|.m _,_|.it _,_|.y _,_|.o ..,_|.f ..,_|.g _,_|.t _,_=>rfl
def q7e:∀ r:RV,argN r.toAs=r.len
 |.cons a r=>by simp only[RV.toAs,argN,m9,q7e r]
 |.i ..|.b _|.np|.ns|.fz|.nm|.u|.nil|.p ..|.s ..|.m _|.it _|.y _|.o ..|.f ..|.g _|.t _=>rfl
def svR(L:List (Nat×RV)):List Nat→List (Nat×RV)
 |[]=>[]
 |d::r=>match lq L d with
  |some v=>(d,v)::svR L r
  |none=>svR L r
def ResOk(P:Program)(rs:List ResultVar)(s':S)(r:AV):Prop:=∀ (X:Ctx) M ρ a w (fn:Func),X.P=P→fn.results.toList=rs→SAT X M ρ s' w→REG X M ρ s' a→r.bd s'.nx∧∃ v,r.rv M ρ v∧(results fn a.tmps).run P w=.ok v w
noncomputable def rsR(P:Program)(s:RS):List ResultVar→Option RV
 |[]=>some .nil
 |x::r=>match (match x with
   |.tmp d=>lq s.L d
   |.cell d t=>(match lq s.L d with
    |some v=>ldR P s.H t v
    |none=>none)) with
  |some v=>(match rsR P s r with
   |some q=>some (.cons v q)
   |none=>none)
  |none=>none
def vlR:RV→RV
 |.cons a .nil=>a
 |r=>.t r
def z6n(h1:SAT X M ρ s.toS w)(h2:REG X M ρ s.toS a):∀ {rs:List ResultVar} {r:RV},rsR X.P s rs=some r→r.bd s.nx∧(rs.mapM (resOne a.tmps)).run X.P w=.ok (r.cl ρ) w∧(r=.nil∨∃ x y,r=.cons x y)
 |[],r,h=>by simp only[rsR,yya] at h;subst h;exact⟨trivial,rfl,.inl rfl⟩
 |x::rs,r,h=>by
  simp only[rsR] at h;split at h
  ·rename_i v hv;split at h
   ·rename_i q hq;simp only[yya] at h;subst h;obtain⟨b1,e1,_⟩:=z6n h1 h2 hq;have hx:v.bd s.nx∧(resOne a.tmps x).run X.P w=.ok (v.cv ρ) w:=by
     cases x with
     |tmp d=>obtain⟨b2,e2⟩:=z6w h2 hv;exact⟨b2,by simp only[resOne,yyf,e2]⟩
     |cell d t=>
      simp only at hv;split at hv
      ·rename_i u hu;obtain⟨_,e2⟩:=z6w h2 hu;obtain⟨b3,e3⟩:=ldR_ok h1 hv;refine⟨b3,?_⟩;have e3:=e3 w (Below.refl _ _);cases u<;>simp only[ldR,reduceCtorEq] at hv
       simp only[Instr.loadAt,Instr.sureAddr,RV.cv,yye,yyf,yyb] at e3;simp only[resOne,e2,RV.cv,asAddr,yye,yyf,yyb,e3]
      ·cases hv
    exact⟨⟨hx.1,b1⟩,by simp only[List.mapM_cons,yye,hx.2,yyb,e1,yyf,RV.cl],.inr ⟨_,_,rfl⟩⟩
   ·cases h
  ·cases h
def z1y{rs:List ResultVar}{r:RV}(h:rsR P s rs=some r):ResOk P rs s.toS (.raw (vlR r)):=by
 intro X M ρ a w fn hP hf h1 h2;subst hP;obtain⟨b1,e1,hr⟩:=z6n h1 h2 h;rw[← hf] at e1;have ha:=q30 (fn:=fn) e1;have hb:(∃ x,r=.cons x .nil)∨((∀ x,r≠.cons x .nil)∧vlR r=.t r):=by
  rcases hr with rfl|⟨x,y,rfl⟩
  ·exact .inr ⟨fun x h=>by(cases h),rfl⟩
  ·cases y with
   |nil=>exact .inl ⟨x,rfl⟩
   |_=>exact .inr ⟨fun x h=>by(injection h with _ h;cases h),rfl⟩
 rcases hb with⟨x,rfl⟩|⟨hd,hv⟩
 ·refine⟨b1.1,_,rfl,?_⟩;rw[ha];simp[RV.cl,vlR]
 ·rw[hv];refine⟨b1,_,rfl,?_⟩;rw[ha,dif_neg]
  ·rfl
  ·simp only[List.size_toArray,j0];intro hz;cases r with
   |cons x y=>
    rw[m9] at hz;cases y with
    |nil=>exact hd x rfl
    |cons _ _=>rw[m9] at hz;omega
    |_=>
     have:False:=by
      clear ha e1 hr hd hv b1;cases rs with
      |nil=>simp[rsR] at h
      |cons q rs=>
       simp only[rsR] at h;split at h
       ·split at h
        ·rename_i q' hq;simp only[yya] at h;injection h with _ h
         subst h;obtain⟨_,_,h3⟩:=z6n h1 h2 hq;rcases h3 with h3|⟨_,_,h3⟩<;>cases h3
        ·cases h
       ·cases h
     exact this.elim
   |_=>exact absurd (show 0=1 from hz) (by decide)
end
end Ox
