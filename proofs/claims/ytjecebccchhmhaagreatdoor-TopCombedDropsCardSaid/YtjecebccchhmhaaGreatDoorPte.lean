/- Texts of the proof of the statement that the last text proves. -/
import Derived.Test.YtjecebccchhmhaaGreatDoorPtd
set_option linter.all false
set_option maxHeartbeats 2000000
variable{d i j lab n0 z:Nat}{fo x y:Go.Operand}{f:Go.FuncId}{ET:List (Nat×Nat)}{args:List Go.Operand}{α:Type}{body:Go.Code}{MT:List (Nat×(Nat×Nat))}{ty:Go.TypeId}
namespace Ox.Rn
open Go Go.RowKit
noncomputable section
variable {P:Program}{s:Sg}{T:Sk}{t:T2}{H:Hg}{n:Nat}
def oRV_ok{q:Option RV}{v:RV}(h:oRV q=v)(hn:isNl v=false):q=some v:=by
 subst h;cases q with
 |none=>cases hn
 |some x=>rfl
def nlN{v:RV}(h:RV.nil=v)(hn:isNl v=false):False:=by subst h;cases hn
def pkV_ok{c x y v:RV}(h:pkV c x y=v)(hn:isNl v=false):∃ z,c=.b z∧(bif z then x else y)=v:=by
 cases c
 case b z=>exact⟨z,rfl,by rw[← h];cases z<;>rfl⟩
 all_goals exact(nlN h hn).elim
def j0h{k:IntKind}{m:Nat}(h:Nat.blt m (lim k)=true):inR k (.ofNat m)=true:=by cases k<;>first|exact h|(exact absurd (show m<0 from by simpa[lim] using h) (Nat.not_lt_zero _))
variable{op:BinOp}
def gop_ok{k:IntKind}{a b:Int}{v:RV}(h:(cbC op).ap k a b=v)(hn:isNl v=false):f_op op k a b=some v:=by
 cases op<;>first|exact(nlN h hn).elim|skip
 case add=>
  have h':gAdd k a b=v:=h;cases a<;>first|exact(nlN h' hn).elim|skip
  cases b<;>first|exact(nlN h' hn).elim|skip
  rename_i p q;have h':(@Bool.rec (fun _=>RV) .nil (.i k (.ofNat (Nat.add p q))) (Nat.blt (Nat.add p q) (lim k)):RV)=v:=h';cases hb:Nat.blt (Nat.add p q) (lim k)
  ·rw[hb] at h';exact(nlN h' hn).elim
  ·rw[hb] at h';show keep k (Int.add (.ofNat p) (.ofNat q))=some v;have e:Int.add (.ofNat p) (.ofNat q)=.ofNat (Nat.add p q):=rfl;rw[e,keep,j0h hb,cond_true,← h']
 case sub=>
  have h':gSub k a b=v:=h;cases a<;>first|exact(nlN h' hn).elim|skip
  cases b<;>first|exact(nlN h' hn).elim|skip
  rename_i p q;have h':(@Bool.rec (fun _=>RV) .nil (@Bool.rec (fun _=>RV) .nil (.i k (.ofNat (Nat.sub p q))) (Nat.blt p (lim k))) (Nat.ble q p):RV)=v:=h';cases hb:Nat.ble q p
  ·rw[hb] at h';exact(nlN h' hn).elim
  ·rw[hb] at h';have h':(@Bool.rec (fun _=>RV) .nil (.i k (.ofNat (Nat.sub p q))) (Nat.blt p (lim k)):RV)=v:=h';cases hc:Nat.blt p (lim k)
   ·rw[hc] at h';exact(nlN h' hn).elim
   ·rw[hc] at h';show keep k (Int.sub (.ofNat p) (.ofNat q))=some v;have hd:=yyd hb;have e:Int.sub (.ofNat p) (.ofNat q)=.ofNat (Nat.sub p q):=by show(p:Int)-(q:Int)=((p-q:Nat):Int);omega
    have ha:Nat.blt (Nat.sub p q) (lim k)=true:=by
     have h1:p<lim k:=by simpa using hc
     have h2:p-q<lim k:=by omega
     simpa using h2
    rw[e,keep,j0h ha,cond_true,← h']
 case mul=>
  have h':gMul k a b=v:=h;cases a<;>first|exact(nlN h' hn).elim|skip
  cases b<;>first|exact(nlN h' hn).elim|skip
  rename_i p q;have h':(@Bool.rec (fun _=>RV) .nil (.i k (.ofNat (Nat.mul p q))) (Nat.blt (Nat.mul p q) (lim k)):RV)=v:=h';cases hb:Nat.blt (Nat.mul p q) (lim k)
  ·rw[hb] at h';exact(nlN h' hn).elim
  ·rw[hb] at h';show keep k (Int.mul (.ofNat p) (.ofNat q))=some v;have e:Int.mul (.ofNat p) (.ofNat q)=.ofNat (Nat.mul p q):=rfl;rw[e,keep,j0h hb,cond_true,← h']
 all_goals
  refine Eq.trans ?_ (congrArg some h)
  first
   |rfl
   |(show some (RV.b _)=some (RV.b _);congr 2;generalize iEq a b=z;cases z<;>rfl)
   |(show some (RV.b _)=some (RV.b _);congr 2;generalize iLt a b=z;cases z<;>rfl)
   |(show some (RV.b _)=some (RV.b _);congr 2;generalize iLt b a=z;cases z<;>rfl)
variable{r u:RV}
def orV_ok{sw:Cw}{u w v:RV}(h:orV r sw u w=v):(isNl r=false∧r=v)∨(r=.nil∧sw.ap u w=v):=by
 cases r
 case nil=>exact .inr ⟨rfl,h⟩
 all_goals exact .inl ⟨rfl,h⟩
def bnV_ok{u w v:RV}(h:bnV1 u w (cbC op) (.mk (bnS P op ty x y))=v)(hn:isNl v=false):bnR P op ty x y u w=some v:=by
 have slow:∀ {u w:RV},bnS P op ty x y u w=v→bnR P op ty x y u w=some v:=fun h=>oRV_ok h hn;cases u
 case nil=>first|exact slow h|exact(nlN h hn).elim
 case i k a=>
  change bnV2 w k a (cbC op) (.mk (bnS P op ty x y))=v at h;cases w
  case nil=>first|exact slow h|exact(nlN h hn).elim
  case i k' b=>
   change bnV3 k a (cbC op) (.mk (bnS P op ty x y)) k' b=v at h;unfold bnV3 at h;cases hk:kEqF k k'
   ·rw[hk] at h;exact slow h
   ·rw[hk] at h;rcases orV_ok h with⟨h1,h2⟩|⟨_,h2⟩
    ·unfold bnR;have:f_bin op (.i k a) (.i k' b)=some v:=by show(bif kEq k k' then f_op op k a b else none)=some v;rw[show kEq k k'=kEqF k k' from rfl,hk,cond_true];exact gop_ok h2 hn
     rw[this]
    ·exact slow h2
  all_goals exact slow h
 all_goals exact slow h
def bnR_nil:bnR P op ty x y u .nil=none:=by
 have h1:f_bin op u .nil=none:=by cases u<;>rfl
 have h2:nlR P ty u .nil=none:=by
  unfold nlR;split
  ·cases u<;>rfl
  ·cases u<;>rfl
  ·cases u<;>rfl
  ·rfl
 have h3:arR P op ty u .nil=none:=by cases u<;>rfl
 unfold bnR bnR0;rw[h1,h3];simp only;split
 ·rfl
 ·rw[h2]
def faO_ok{u v:RV}(ho:faO P ty i=some z)(h:faV u z=v)(hn:isNl v=false):faR P ty u i=some v:=by
 cases u
 case p l q=>
  subst h;unfold faO at ho;unfold faR;split at ho
  ·rename_i fs hU;rw[hU];simp only;split at ho
   ·rename_i f hf;rw[hf];simp only;split at ho
    ·rename_i k hs;rw[hs];injection ho with ho;subst ho;rfl
    ·cases ho
   ·cases ho
  ·cases ho
 all_goals exact(nlN h hn).elim
def z9q:∀ {vs:RV} {k:Nat} {v:RV},nthL vs k=v→isNl v=false→Nat.blt k vs.len=true∧vs.nth k=v
 |.cons a r,0,v,h,_=>⟨by rw[o5];simp,h⟩
 |.cons a r,k+1,v,h,hn=>by obtain⟨h1,h2⟩:=z9q (vs:=r) (k:=k) h hn;rw[o5,q7z];exact⟨by simpa using h1,h2⟩
 |.i ..,_,_,h,hn|.b _,_,_,h,hn|.np,_,_,h,hn|.ns,_,_,h,hn|.fz,_,_,h,hn|.nm,_,_,h,hn|.u,_,_,h,hn|.nil,_,_,h,hn|.p ..,_,_,h,hn|.s ..,_,_,h,hn|.m _,_,_,h,hn|.it _,_,_,h,hn|.y _,_,_,h,hn|.o ..,_,_,h,hn|.f ..,_,_,h,hn|.g _,_,_,h,hn|.t _,_,_,h,hn=>(nlN h hn).elim
def z89{c:Bool}{l q:Nat}{v:RV}(h:pifB c l q=v)(hn:isNl v=false):c=true∧v=.p l q:=by
 cases c
 ·exact(nlN h hn).elim
 ·exact⟨rfl,h.symm⟩
def z16{u v:RV}{f:Nat→RV}(h:ixV u f=v)(hn:isNl v=false):∃ k m,u=.i k (.ofNat m)∧f m=v:=by
 cases u
 case i k j=>
  cases j with
  |ofNat m=>exact⟨k,m,rfl,h⟩
  |negSucc m=>exact(nlN h hn).elim
 all_goals exact(nlN h hn).elim
def decN(m k:Nat):(decide ((0:Int)≤.ofNat m)&&decide ((Int.ofNat m)<(k:Int)))=Nat.blt m k:=by rw[yxb];simp
def iaS_ok{len z:Nat}{u i v:RV}(ho:iaO P ty=.ar len z)(h:ixV i (fun m=>iaV u m len z)=v)(hn:isNl v=false):iaR P H ty u i=some v:=by
 obtain⟨k,m,rfl,h'⟩:=z16 h hn;clear h;unfold iaO at ho;unfold iaR;split at ho
 ·rename_i len' elem hU;rw[hU];simp only;split at ho
  ·rename_i z' hz;injection ho with e1 e2;subst e1;subst e2
   cases u
   case p l q=>obtain⟨h1,rfl⟩:=z89 h' hn;simp only[hz,decN,h1,cond_true];rfl
   all_goals exact(nlN h' hn).elim
  ·cases ho
 ·split at ho<;>cases ho
 ·cases ho
def iaL_ok{u i v:RV}(ho:iaO P ty=.sl z)(h:ixV i (fun m=>iaW u m z H)=v)(hn:isNl v=false):iaR P H ty u i=some v:=by
 obtain⟨k,m,rfl,h'⟩:=z16 h hn;clear h;unfold iaO at ho;unfold iaR;split at ho
 ·split at ho<;>cases ho
 ·rename_i elem hU;rw[hU];simp only;split at ho
  ·rename_i z' hz;injection ho with e2;subst e2
   cases u
   case s l q c d=>obtain⟨h1,rfl⟩:=z89 h' hn;simp only[slB,hz,decN,h1,okO,Bool.and_true,cond_true];rfl
   case o l e lo hi w zz=>
    obtain⟨h1,rfl⟩:=z89 h' hn;obtain⟨h1,h2⟩:=v5.1 h1;have ha:m<hi-lo:=by simpa using h1
    have hb:Nat.blt lo hi=true:=by simpa using(show lo<hi by omega)
    simp only[slB,hb,cond_true,hz,decN];rw[show Nat.blt m (hi-lo)=true from h1,h2];rfl
   all_goals exact(nlN h' hn).elim
  ·cases ho
 ·cases ho
def ldV_ok{f:Nat→Tr→Nat→RV}{u v:RV}(h:ldV u f H=v)(hn:isNl v=false):∃ l q,u=.p l q∧∃ m tr,f m tr q=v∧((∃ a b c,hq H l=some (.blk a b m c tr))∨∃ a b c,hq H l=some (.gl a b m c tr)):=by
 cases u
 case p l q=>
  have h:ldB ((hca l).ap H.t) f q=v:=h;refine⟨l,q,rfl,?_⟩;unfold hq;generalize (hca l).ap H.t=o at *;cases o
  case blk a b m c tr=>exact⟨m,tr,h,.inl ⟨a,b,c,rfl⟩⟩
  case gl a b m c tr=>exact⟨m,tr,h,.inr ⟨a,b,c,rfl⟩⟩
  all_goals exact(nlN h hn).elim
 all_goals exact(nlN h hn).elim
def ld_ok{f:Nat→Tr→Nat→RV}{u v:RV}(hf:∀ m tr q v,f m tr q=v→isNl v=false→ldT P ty m tr q=some v)(h:ldV u f H=v)(hn:isNl v=false):ldR P H ty u=some v:=by
 obtain⟨l,q,rfl,m,tr,hv,⟨a,b,c,hl⟩|⟨a,b,c,hl⟩⟩:=ldV_ok h hn <;>
  (unfold ldR;simp only[hl];exact hf m tr q v hv hn)
def ldS_ok(ho:ldO P ty=.sc):∀ m tr q v,ldS m tr q=v→isNl v=false→ldT P ty m tr q=some v:=by
 intro m tr q v h hn;unfold ldO at ho;unfold ldT;split at ho
 ·split at ho<;>cases ho
 ·rename_i hA;rw[hA];simp only;unfold ldS at h;cases hb:Nat.blt q m
  ·rw[hb] at h;exact(nlN h hn).elim
  ·rw[hb] at h;rw[cond_true,← h]
 ·cases ho
def ldA_ok{k:Nat}(ho:ldO P ty=.ag k):∀ m tr q v,ldA k m tr q=v→isNl v=false→ldT P ty m tr q=some v:=by
 intro m tr q v h hn;unfold ldO at ho;unfold ldT;split at ho
 ·rename_i hA;rw[hA];simp only;split at ho
  ·rename_i k' hk;injection ho with ho;subst ho
   rw[hk];simp only;unfold ldA at h;cases hb:Nat.ble (q+k') m
   ·rw[show Nat.ble (Nat.add q k') m=false from hb] at h;exact(nlN h hn).elim
   ·rw[show Nat.ble (Nat.add q k') m=true from hb] at h;rw[cond_true,← h]
  ·cases ho
 ·cases ho
 ·cases ho
def cv_ok{op:Op}{v:RV}(h:(cvO P s op).ap T t H n=v)(hn:isNl v=false):evR P ⟨(s.sm op.operands.toList).ap T t,H,n⟩ op=some v:=by
 have slow:∀ {op:Op},(Cv.mk (slQ P op (s.sm op.operands.toList))).ap T t H n=v→evR P ⟨(s.sm op.operands.toList).ap T t,H,n⟩ op=some v:=fun h=>oRV_ok h hn;have nonnil:∀ {u:RV},(isNl u=true→False)→isNl u=false:=fun h=>by
  cases hu:isNl _
  ·rfl
  ·exact(h hu).elim
 cases op
 case move x=>rw[q28];exact q17 (by simp[Op.operands]) h hn
 case assign x=>rw[q28];exact q17 (by simp[Op.operands]) h hn
 case pick c x y=>
  rw[q28];obtain⟨z,hc,hv⟩:=pkV_ok (c:=(s.op c).ap T t) (x:=(s.op x).ap T t) (y:=(s.op y).ap T t) h hn;show q_pick _ c x y=some v;unfold q_pick;rw[q17 (by simp[Op.operands]) hc rfl];cases z
  ·exact q17 (by simp[Op.operands]) hv hn
  ·exact q17 (by simp[Op.operands]) hv hn
 case binOp b ty x y yt=>
  rw[q28];have h:bnV1 ((s.op x).ap T t) ((s.op y).ap T t) (cbC b) (.mk (bnS P b ty x y))=v:=h;have hr:=bnV_ok h hn;show q_bin P _ b ty x y=some v;have hx:isNl ((s.op x).ap T t)=false:=nonnil fun hc=>by
   cases hu:(s.op x).ap T t<;>rw[hu] at hc<;>first|(cases hc;done)|skip
   rw[hu] at h;exact nlN h hn
  have hy:isNl ((s.op y).ap T t)=false:=nonnil fun hc=>by
   cases hu:(s.op y).ap T t<;>rw[hu] at hc<;>first|(cases hc;done)|skip
   rw[hu,bnR_nil] at hr;cases hr
  unfold q_bin;rw[q17 (by simp[Op.operands]) rfl hx,q17 (by simp[Op.operands]) rfl hy];exact hr
 case fieldAddr ty x i=>
  rw[q28];have h:(match faO P ty i with
   |some z=>Cv.mk (faF z (s.op x))
   |none=>Cv.mk nilV).ap T t H n=v:=h
  cases ho:faO P ty i with
  |none=>rw[ho] at h;exact(nlN h hn).elim
  |some z=>
   rw[ho] at h;have h:faV ((s.op x).ap T t) z=v:=h;have hr:=faO_ok ho h hn;have hx:isNl ((s.op x).ap T t)=false:=nonnil fun hc=>by
    cases hu:(s.op x).ap T t<;>rw[hu] at hc<;>first|(cases hc;done)|skip
    rw[hu] at h;exact nlN h hn
   show q_fa P _ ty x i=some v;unfold q_fa;rw[q17 (by simp[Op.operands]) rfl hx];exact hr
 case nilCheck x=>
  rw[q28];have h:ncV ((s.op x).ap T t)=v:=h;show q_nil _ x=some v;unfold q_nil;have hx:isNl ((s.op x).ap T t)=false:=nonnil fun hc=>by
   cases hu:(s.op x).ap T t<;>rw[hu] at hc<;>first|(cases hc;done)|skip
   rw[hu] at h;exact nlN h hn
  rw[q17 (by simp[Op.operands]) rfl hx];cases hu:(s.op x).ap T t<;>rw[hu] at h<;>first|exact(nlN h hn).elim|exact congrArg some h
 case extract x i=>
  rw[q28];have h:exV ((s.op x).ap T t) i=v:=h;show q_ext _ x i=some v;unfold q_ext;have hx:isNl ((s.op x).ap T t)=false:=nonnil fun hc=>by
   cases hu:(s.op x).ap T t<;>rw[hu] at hc<;>first|(cases hc;done)|skip
   rw[hu] at h;exact nlN h hn
  rw[q17 (by simp[Op.operands]) rfl hx];cases hu:(s.op x).ap T t<;>rw[hu] at h<;>first|exact(nlN h hn).elim|skip
  obtain⟨h1,h2⟩:=z9q h hn;simp only[h1,cond_true,h2]
 case load ty x=>
  rw[q28];have h:(match ldO P ty with
   |.sc=>Cv.mk (ldF ldS (s.op x))
   |.ag k=>Cv.mk (ldF (ldA k) (s.op x))
   |.no=>Cv.mk nilV).ap T t H n=v:=h
  have go:∀ f,ldV ((s.op x).ap T t) f H=v→(∀ m tr q v,f m tr q=v→isNl v=false→ldT P ty m tr q=some v)→q_ld P ⟨(s.sm (Op.load ty x).operands.toList).ap T t,H,n⟩ ty x=some v:=fun f h hf=>by
   have hx:isNl ((s.op x).ap T t)=false:=nonnil fun hc=>by
    cases hu:(s.op x).ap T t<;>rw[hu] at hc<;>first|(cases hc;done)|skip
    rw[hu] at h;exact nlN h hn
   unfold q_ld;rw[q17 (by simp[Op.operands]) rfl hx];exact ld_ok hf h hn
  cases ho:ldO P ty with
  |no=>rw[ho] at h;exact(nlN h hn).elim
  |sc=>rw[ho] at h;exact go _ h (ldS_ok ho)
  |ag k=>rw[ho] at h;exact go _ h (ldA_ok ho)
 case indexAddr ty x i=>
  cases x
  case tmp x=>
   rw[q28];have h:(match iaO P ty with
    |.ar len z=>Cv.mk (iaF len z (s.op (.tmp x)) (s.op i))
    |.sl z=>Cv.mk (isF z (s.op (.tmp x)) (s.op i))
    |.no=>Cv.mk nilV).ap T t H n=v:=h
   have go:iaR P H ty ((s.op (.tmp x)).ap T t) ((s.op i).ap T t)=some v→isNl ((s.op (.tmp x)).ap T t)=false→isNl ((s.op i).ap T t)=false→q_ia P ⟨(s.sm (Op.indexAddr ty (.tmp x) i).operands.toList).ap T t,H,n⟩ ty (.tmp x) i=some v:=fun h hx hi=>by unfold q_ia;simp only;rw[q17 (x:=.tmp x) (by simp[Op.operands]) rfl hx,q17 (x:=i) (by simp[Op.operands]) rfl hi];exact h
   have hi:∀ {f:Nat→RV},ixV ((s.op i).ap T t) f=v→isNl ((s.op i).ap T t)=false:=fun h=>by obtain⟨k,m,e,_⟩:=z16 h hn;rw[e];rfl
   cases ho:iaO P ty with
   |no=>rw[ho] at h;exact(nlN h hn).elim
   |ar len z=>
    rw[ho] at h;have h:ixV ((s.op i).ap T t) (fun m=>iaV ((s.op (.tmp x)).ap T t) m len z)=v:=h;refine go (iaS_ok ho h hn) (nonnil fun hc=>?_) (hi h);obtain⟨k,m,_,e⟩:=z16 h hn;cases hu:(s.op (.tmp x)).ap T t<;>rw[hu] at hc<;>first|(cases hc;done)|skip
    rw[hu] at e;exact nlN e hn
   |sl z=>
    rw[ho] at h;have h:ixV ((s.op i).ap T t) (fun m=>iaW ((s.op (.tmp x)).ap T t) m z H)=v:=h;refine go (iaL_ok ho h hn) (nonnil fun hc=>?_) (hi h);obtain⟨k,m,_,e⟩:=z16 h hn;cases hu:(s.op (.tmp x)).ap T t<;>rw[hu] at hc<;>first|(cases hc;done)|skip
    rw[hu] at e;exact nlN e hn
  all_goals exact slow h
 all_goals exact slow h
structure Mt(P:Program)(n dp:Nat)(rd:Option (Nat×Nat))(X:Ctx):Prop where
 p:X.P=P
 ok:XOK X
 n:X.n=n
 dp:X.dp=dp
 rd:RdOk X rd
def st(g:Nat)(t:T2)(H:Hg)(nx:Nat):FS:=⟨⟨g,0,[],.e,t⟩,H,nx⟩
def Gm.fs(m:Gm)(o:Ex×FS):FS:=st (m.of o.1) o.2.L.t o.2.H o.2.nx
def OkQ(m:Gm)(QA:Exit→S→Prop)(os:Outs):Prop:=∀ o∈os,QA o.1.to (m.fs o).toS
def OkF(F:List (Nat×Rg))(os:Outs):Prop:=∀ o∈os,o.2.H.F=F
def GC(P:Program)(n dp:Nat)(rd:Option (Nat×Nat))(c:Code)(m:Gm)(g:Nat)(t:T2)(H:Hg)(nx:Nat)(os:Outs):Prop:=OkF H.F os∧∀ X,Mt P n dp rd X→∀ QA,JWc X QA→OkQ m QA os→JC X c QA (st g t H nx).toS
def EvOk(P:Program)(e:Ev):Prop:=∀ n rd rm out c t H nx os,(e.sub n rd rm out c t H nx).outs=some os→GC P n (e.dp+1) rd c ⟨rm,out,[],false⟩ (lv rm c out []) t H nx os
def KG(P:Program)(n:Nat)(m:Gm)(A:Ctx→(Exit→S→Prop)→FS→Prop)(s:Sg)(k:Ck):Prop:=∀ e T t H nx os,EvOk P e→(k.ap e T t H nx).outs=some os →
 OkF H.F os∧∀ X,Mt P n e.dp e.rd X→∀ QA,JWc X QA→OkQ m QA os→A X QA ⟨s.L T t,H,nx⟩
def AL(all:List Oper)(Q':Ctx→(Exit→S→Prop)→Exit→S→Prop)(l:List Oper):Ctx→(Exit→S→Prop)→FS→Prop:=fun X QA q=>JL X true all (Q' X QA) l q.toS
def DG(P:Program)(n:Nat)(m:Gm)(all:List Oper)(o:Oper)(A:Ctx→(Exit→S→Prop)→FS→Prop)(s:Sg)(k:Ck):Prop:=∀ e T t H nx os,EvOk P e→gdT all (s.L T t) o.guard=some true→(k.ap e T t H nx).outs=some os →
 OkF H.F os∧∀ X,Mt P n e.dp e.rd X→∀ QA,JWc X QA→OkQ m QA os→A X QA ⟨s.L T t,H,nx⟩
variable {m:Gm}{nx:Nat}{X:Ctx}{QA:Exit→S→Prop}{all l:List Oper}{o:Oper}{k c:Ck}{A:Ctx→(Exit→S→Prop)→FS→Prop}{Q':Ctx→(Exit→S→Prop)→Exit→S→Prop}
def z1y:KG P n m A s noK:=fun e T t H nx os he h=>by cases h
def j2o{L Lt:Rg}(h:SubT Lt L):JW X (⟨Lt,H,n⟩:FS).toS (⟨L,H,n⟩:FS).toS:=z6j (s:=(⟨L,H,n⟩:FS).toS) rfl rfl fun d v hd=>by obtain⟨rfl,e2⟩:=n9 hd;exact m6 (h d e2) e2
variable{L:Rg}
def gdT_eq{w:Bool}:gdT all L (some (j,w))=match gdR all j with
  |some d=>(match L.get d with
   |.b x=>some (wantB w x)
   |.u=>some false
   |_=>none)
  |none=>none:=by
 unfold gdT gdR;simp only;cases all[j]? with
 |none=>rfl
 |some o=>rfl
def gv_ok{v:RV}(h:(gvC P s all o).ap T t H nx=v)(hn:isNl v=false) :
  (gdT all (s.L T t) o.guard=some true∧evR P ⟨(s.sm o.op.operands.toList).ap T t,H,nx⟩ o.op=some v)∨(gdT all (s.L T t) o.guard=some false∧v=.u):=by
 unfold gvC at h;split at h
 ·rename_i hg;exact .inl ⟨by rw[hg];rfl,cv_ok h hn⟩
 ·rename_i j w hg;split at h
  ·rename_i d hd;have h':gvV ((s.va (s.loc d)).ap T t) w (cvO P s o.op) T t H nx=v:=h;rw[q9l] at h';rw[hg,gdT_eq,hd];simp only;generalize (s.L T t).get d=u at h';cases u
   case b x=>
    have h':(@Bool.rec (fun _=>RV) .u ((cvO P s o.op).ap T t H nx) (wantB w x):RV)=v:=h';simp only;cases hw:wantB w x
    ·rw[hw] at h';exact .inr ⟨rfl,h'.symm⟩
    ·rw[hw] at h';exact .inl ⟨rfl,cv_ok h' hn⟩
   case u=>exact .inr ⟨rfl,h'.symm⟩
   all_goals exact(nlN h' hn).elim
  ·exact(nlN h hn).elim
def z50{v:RV}{e:Ev}{os:Outs}(h:(frc v k e T t H nx).outs=some os):isNl v=false∧(k.ap e (.c v T) t H nx).outs=some os:=by
 cases v
 case nil=>cases h
 all_goals exact⟨rfl,h⟩
def pv_g(hw:s.wf)(hd:dstB n o.dst=true)(hk:KG P n m (AL all Q' l) (s.put o.dst) k):KG P n m (AL all Q' (o::l)) s (.mk (pvF (gvC P s all o) k)):=fun e T t H nx os he h=>by
 obtain⟨hn,h'⟩:=z50 h;obtain⟨h1,h2⟩:=hk e _ t H nx os he h';refine⟨h1,fun X hm QA hQ ho=>?_⟩;have h3:=h2 X hm QA hQ ho;have ha:dstB X.n o.dst=true:=by rw[hm.n];exact hd
 rcases gv_ok rfl hn with⟨g1,g2⟩|⟨g1,g2⟩
 ·exact JL.fq (q0c _) g1 (by rw[hm.p];exact g2) ha (q5u hw _ _) h3
 ·rw[g2] at h3;exact JL.ff g1 ha (q5u hw _ _) h3
def pd_g(hw:s.wf)(hd:dstB n o.dst=true)(hk:KG P n m (AL all Q' l) (s.put o.dst) k):DG P n m all o (AL all Q' (o::l)) s (.mk (pvF (cvO P s o.op) k)):=fun e T t H nx os he hg h=>by obtain⟨hn,h'⟩:=z50 h;obtain⟨h1,h2⟩:=hk e _ t H nx os he h';refine⟨h1,fun X hm QA hQ ho=>?_⟩;exact JL.fq (q0c _) hg (by rw[hm.p];exact cv_ok rfl hn) (by rw[hm.n];exact hd) (q5u hw _ _) (h2 X hm QA hQ ho)
def gd_g(hw:s.wf)(hd:dstB n o.dst=true)(hc:DG P n m all o (AL all Q' (o::l)) s c)(hk:KG P n m (AL all Q' l) (s.put o.dst) k):KG P n m (AL all Q' (o::l)) s (gdC s all o c k):=fun e T t H nx os he h=>by
 unfold gdC at h;split at h
 ·rename_i hg;exact hc e T t H nx os he (by rw[hg];rfl) h
 ·rename_i j w hg;split at h
  ·rename_i d ha;have h':(gdV ((s.va (s.loc d)).ap T t) w c (.mk (puU k)) e T t H nx).outs=some os:=h;rw[q9l] at h';have hT:gdT all (s.L T t) o.guard=match (s.L T t).get d with
     |.b x=>some (wantB w x)
     |.u=>some false
     |_=>none:=by rw[hg,gdT_eq,ha]
   have off:gdT all (s.L T t) o.guard=some false→(k.ap e (.c .u T) t H nx).outs=some os→OkF H.F os∧∀ X,Mt P n e.dp e.rd X→∀ QA,JWc X QA→OkQ m QA os→AL all Q' (o::l) X QA ⟨s.L T t,H,nx⟩:=fun hf h=>by obtain⟨h1,h2⟩:=hk e _ t H nx os he h;exact⟨h1,fun X hm QA hQ ho=>JL.ff hf (by rw[hm.n];exact hd) (q5u hw _ _) (h2 X hm QA hQ ho)⟩
   cases hu:(s.L T t).get d<;>rw[hu] at h' hT<;>first|(cases h';done)|skip
   ·rename_i x;have h':(@Bool.rec (fun _=>R1) ((Ck.mk (puU k)).ap e T t H nx) (c.ap e T t H nx) (wantB w x):R1).outs=some os:=h';cases hb:wantB w x
    ·rw[hb] at h';exact off (by rw[hT];simp only[hb]) h'
    ·rw[hb] at h';exact hc e T t H nx os he (by rw[hT];simp only[hb]) h'
   ·exact off hT h'
  ·cases h
def mv_g{p:Nat×Operand}(hw:s.wf)(hm:mvO o=some p)(hd:dstB n o.dst=true)(hk:KG P n m (AL all Q' l) (s.ali p.1 (s.lo p.2)) k):KG P n m (AL all Q' (o::l)) s k:=fun e T t H nx os he h=>by
 obtain⟨h1,h2⟩:=hk e T t H nx os he h;refine⟨h1,fun X hM QA hQ ho=>?_⟩;have h3:=h2 X hM QA hQ ho;unfold mvO at hm;split at hm
 ·cases hm
 ·rename_i hg;split at hm
  ·cases hm
  ·rename_i d hh;have ha:dstB X.n o.dst=true:=by rw[hM.n];exact hd
   have key:∀ x,(o.op=.move x∨o.op=.assign x)→p=(d,x)→AL all Q' (o::l) X QA ⟨s.L T t,H,nx⟩:=fun x hb hp=>by
    subst hp;have hR:PutR o.dst ((s.op x).ap T t) (s.L T t) ((s.ali d (s.lo x)).L T t):=by rw[hh];exact ali_R hw d (s.lo x) (lo_wf hw x)
    cases hn:isNl ((s.op x).ap T t)
    ·refine JL.fq (sm:=(s.sm [x]).ap T t) (v:=(s.op x).ap T t) (q0c _) (by rw[hg];rfl) ?_ ha hR h3;rw[q28];rcases hb with h|h<;>(rw[h];exact q17 yyh rfl hn)
    ·have e0:(s.op x).ap T t=.nil:=by cases hv:(s.op x).ap T t<;>rw[hv] at hn<;>first|rfl|cases hn
     rw[e0] at hR;exact JL.fmv hb (by rw[hg];rfl) ha hR h3
   split at hm
   ·rename_i x hx;injection hm with hm
    exact key x (.inl hx) hm.symm
   ·rename_i x hx;injection hm with hm
    exact key x (.inr hx) hm.symm
   ·cases hm
def ft_ok{out:Nat}:∀ {ε:List (Nat×Lc)} {seen d:Nat},ε.all (fun p=>Nat.blt p.1 256)=true→bitB out d=true →
  T2.get ((ftC s out ε seen).ap T t) d=if bitB seen d=true then t.get d else match lk ε d with
   |some x=>(s.va x).ap T t
   |none=>t.get d
 |[],seen,d,_,_=>by show T2.get t d=_;split<;>rfl
 |(q,x)::r,seen,d,hall,hd=>by
  simp only[List.all_cons,yyc] at hall;have hq:q<256:=by simpa using hall.1
  have hs:bitB (Nat.lor seen (bitD q)) d=(bitB seen d||decide (q=d)):=by rw[q0t,q0t,s9,q5m]
  have ih:=ft_ok (seen:=Nat.lor seen (bitD q)) hall.2 hd;rw[hs] at ih;unfold ftC;rw[m8];cases hb:bitB out q&&!bitB seen q
  ·rw[cond_false,ih];by_cases e:q=d
   ·subst e;rw[hd,Bool.true_and,Bool.not_eq_false'] at hb;rw[hb];rfl
   ·simp only[e,decide_false,Bool.or_false,if_false]
  ·rw[cond_true];have e0:∀ b:Bx (RV→T2→T2),(@Bx.rec _ (fun _=>Ft) (fun f=>Ft.mk (ftP f (s.va x) (ftC s out r (Nat.lor seen (bitD q))))) b:Ft).ap T t=b.out ((s.va x).ap T t) ((ftC s out r (Nat.lor seen (bitD q))).ap T t):=fun b=>by cases b;rfl
   rw[show T2.get _ d=T2.get ((pt q).out ((s.va x).ap T t) ((ftC s out r (Nat.lor seen (bitD q))).ap T t)) d from congrArg (T2.get · d) (e0 (pt q))];rw[z1t];simp only[yyc,yyv] at hb;by_cases e:q=d
   ·subst e;rw[if_pos ⟨rfl,hq⟩,hb.2,if_neg (by decide),if_pos rfl]
   ·rw[if_neg (fun c=>e c.1),ih];simp only[e,decide_false,Bool.or_false,if_false]
def tb_ks{k:Nat}:∀ {ε:List (Nat×Lc)},(ksM ε).testBit k=true→∃ x,lk ε k=some x
 |[],h=>by simp[ksM] at h
 |(q,x)::r,h=>by
  rw[ksM,s9,q5m,yyy] at h;rw[m8];by_cases e:q=k
  ·exact⟨x,if_pos e⟩
  ·rw[if_neg e];exact tb_ks (h.resolve_left (by simpa using e))
def en_sub{out:Nat}(h:enB s out=true):SubT ⟨out,0,[],.e,(ftC s out s.ε 0).ap T t⟩ (s.L T t):=fun d hn=>by
 obtain⟨h1,h2⟩:=v5.1 h;unfold Rg.get at hn ⊢;cases hb:Nat.blt d 512
 ·rw[hb] at hn;cases hn
 ·rw[hb] at hn;simp only[cond_true] at hn ⊢;show _=trg out _ d;change isNl (trg out ((ftC s out s.ε 0).ap T t) d)=false at hn;unfold trg at hn ⊢;cases ho:bitB out d
  ·rw[ho] at hn;cases hn
  ·rw[cond_true,ft_ok h2 ho,if_neg (by rw[q0t];simp)];show(match lk s.ε d with|some x=>lcv s.g s.h T t x|none=>trg s.g t d)=_;cases hl:lk s.ε d with
   |some x=>exact(va_ok x T t).symm
   |none=>
    have:=q4y.1 h1 d (by rw[← q0t];exact ho);rw[s9,yyy] at this;rcases this with h3|h3
    ·simp only[trg,q0t,h3,cond_true]
    ·obtain⟨x,hx⟩:=tb_ks h3;rw[hl] at hx;cases hx
def en_g(hA:∀ X QA q,QA .normal q.toS→A X QA q):KG P n m A s (enC s m.out):=fun e T t H nx os he h=>by
 unfold enC at h;cases hb:enB s m.out
 ·rw[hb] at h;cases h
 ·rw[hb] at h;have h':some [((Ex.nm,⟨tL ((ftC s m.out s.ε 0).ap T t),H,nx⟩):Ex×FS)]=some os:=h;injection h' with h'
  subst h';refine⟨fun o ho=>by rw[yyp.1 ho],fun X hm QA hQ ho=>hA X QA _ (hQ _ _ _ (j2o (en_sub hb)) (ho _ yyh))⟩
def FOr(F F':List (Nat×Rg)):Prop:=F'=F∨F'=[]
def FPr(F:List (Nat×Rg))(q:Option (RV×RS)):Prop:=∀ p,q=some p→FOr F p.2.H.F
def fltF_or(l:Nat)(F:List (Nat×Rg)):FOr F (fltF l F):=by
 unfold fltF;cases hasF l F
 ·exact .inl rfl
 ·exact .inr rfl
def q74(H:Hg)(l:Nat)(o:RO):(updR H l o).F=H.F:=by unfold updR;rfl
def delR_F(H:Hg)(l:Nat):(delR H l).F=fltF l H.F:=by unfold delR;rfl
section
variable {F:List (Nat×Rg)}{s:RS}{v:RV}{L:List (Nat×RV)}{l l' n:Nat}{o:RO}{c:RV}{k:Option Nat}{t:TypeId}{a b:Option (RV×RS)}{x:Bool}
def FPr.no:FPr F none:=fun _ h=>by cases h
def m7(ha:FPr F a)(hb:FPr F b):FPr F (bif x then a else b):=by cases x;exact hb;exact ha
def q6j:FPr s.H.F (some (v,s)):=fun p h=>by injection h with h;subst h;exact .inl rfl
def FPr.up:FPr s.H.F (some (v,⟨L,updR s.H l o,n⟩)):=fun p h=>by injection h with h;subst h;exact .inl (q74 _ _ _)
def FPr.dl:FPr s.H.F (some (v,⟨L,updR (delR s.H l') l o,n⟩)):=fun p h=>by
 injection h with h;subst h
 show FOr s.H.F (updR (delR s.H l') l o).F;rw[q74,delR_F];exact fltF_or _ _
def FPr.nb:FPr s.H.F (some (v,nblk s t k c)):=fun p h=>by injection h with h;subst h;exact .inl (q74 _ _ _)
end
variable {s s':RS}{v:RV}
def z92{t:TypeId}:FPr s.H.F (m_store P s t x y):=by
 unfold m_store
 repeat' (first|with_reducible exact FPr.no|with_reducible exact FPr.up|with_reducible refine m7 ?_ ?_|split)
def z98{t:TypeId}:FPr s.H.F (m_alloc P s t):=by
 unfold m_alloc
 repeat' (first|with_reducible exact FPr.no|with_reducible exact FPr.nb|with_reducible refine m7 ?_ ?_|split)
def m_box_F{t:TypeId}:FPr s.H.F (m_box s t x):=by
 unfold m_box
 repeat' (first|with_reducible exact FPr.no|with_reducible exact FPr.nb|with_reducible refine m7 ?_ ?_|split)
def m_bsl0_F{t:TypeId}:FPr s.H.F (m_bsl0 P s t):=by
 unfold m_bsl0
 repeat' (first|with_reducible exact FPr.no|with_reducible exact FPr.nb|with_reducible refine m7 ?_ ?_|split)
def m_bsl_F{t:TypeId}{ps:List (Nat×Operand)}:FPr s.H.F (m_bsl P s t n ps):=by
 unfold m_bsl
 repeat' (first|with_reducible exact FPr.no|with_reducible exact FPr.nb|with_reducible refine m7 ?_ ?_|split)
def m_mks_F{t:TypeId}{l c:Operand}:FPr s.H.F (m_mks P s t l c):=by
 unfold m_mks
 repeat' (first|with_reducible exact FPr.no|with_reducible exact FPr.nb|with_reducible refine m7 ?_ ?_|split)
def m_app1_F{elem:TypeId}{e n:Nat}{base c:RV}:FPr s.H.F (m_app1 s elem e base n c):=by
 unfold m_app1
 repeat' (first|with_reducible exact FPr.no|with_reducible exact FPr.up|with_reducible exact FPr.dl|with_reducible refine m7 ?_ ?_|split)
def m_app_F{tys:List TypeId}:FPr s.H.F (m_app P s args tys):=by
 unfold m_app
 repeat' (first|with_reducible exact FPr.no|with_reducible exact m_app1_F|with_reducible exact q6j|with_reducible exact FPr.up|with_reducible exact FPr.dl|with_reducible refine m7 ?_ ?_|split)
def m_copy_F{tys:List TypeId}:FPr s.H.F (m_copy P s args tys):=by
 unfold m_copy
 repeat' (first|with_reducible exact FPr.no|with_reducible exact q6j|with_reducible exact FPr.up|with_reducible refine m7 ?_ ?_|split)
def m_clr_F{tys:List TypeId}:FPr s.H.F (m_clr P s args tys):=by
 unfold m_clr
 repeat' (first|with_reducible exact FPr.no|with_reducible exact q6j|with_reducible exact FPr.up|with_reducible refine m7 ?_ ?_|split)
def m_del_F{tys:List TypeId}:FPr s.H.F (m_del P s args tys):=by
 unfold m_del
 repeat' (first|with_reducible exact FPr.no|with_reducible exact q6j|with_reducible exact FPr.up|with_reducible refine m7 ?_ ?_|split)
def m_mkm_F{r:Option Operand}:FPr s.H.F (m_mkm s r):=by
 unfold m_mkm
 repeat' (first|with_reducible exact FPr.no|with_reducible exact q6j|with_reducible exact FPr.up|with_reducible refine m7 ?_ ?_|split)
def z93{t:TypeId}{m k x:Operand}:FPr s.H.F (m_mup P s t m k x):=by
 unfold m_mup
 repeat' (first|with_reducible exact FPr.no|with_reducible exact q6j|with_reducible exact FPr.up|with_reducible refine m7 ?_ ?_|split)
def m_men_F{t:TypeId}{m k:Operand}:FPr s.H.F (m_men P s t m k):=by
 unfold m_men
 repeat' (first|with_reducible exact FPr.no|with_reducible exact q6j|with_reducible exact FPr.up|with_reducible refine m7 ?_ ?_|split)
def m_mes_F{m st x:Operand}:FPr s.H.F (m_mes s m st x):=by
 unfold m_mes
 repeat' (first|with_reducible exact FPr.no|with_reducible exact q6j|with_reducible exact FPr.up|with_reducible refine m7 ?_ ?_|split)
def m_rng_F{t:TypeId}:FPr s.H.F (m_rng P s t x):=by
 unfold m_rng
 repeat' (first|with_reducible exact FPr.no|with_reducible exact q6j|with_reducible exact FPr.up|with_reducible refine m7 ?_ ?_|split)
def m_call_F{c:Call}:FPr s.H.F (m_call P s c):=by
 unfold m_call
 repeat' (first|with_reducible exact FPr.no|with_reducible exact m_app_F|with_reducible exact m_copy_F|with_reducible exact m_clr_F|with_reducible exact m_del_F|split)
def m_bsl'_F{t:TypeId}{ps:List (Nat×Operand)}:FPr s.H.F (m_bsl' P s t n ps):=by
 unfold m_bsl'
 repeat' (first|with_reducible exact FPr.no|with_reducible exact m_bsl0_F|with_reducible exact m_bsl_F|split)
def evM_F{op:Op}(h:evM P s op=some (v,s')):FOr s.H.F s'.H.F:=by
 have key:FPr s.H.F (evM P s op):=by
  rw[j1c];cases op<;>first|with_reducible exact FPr.no|skip
  case store t x y=>exact z92
  case alloc t=>exact z98
  case box t x=>exact m_box_F
  case buildSlice t n ps=>exact m_bsl'_F
  case makeSlice t x c=>exact m_mks_F
  case makeMap t r=>exact m_mkm_F
  case mapUpdate t m k x=>exact z93
  case insert t m k x=>exact z93
  case mapEntry t m k=>exact m_men_F
  case entryStore t m st x=>exact m_mes_F
  case range t x=>exact m_rng_F
  case call c=>exact m_call_F
  all_goals exact FPr.no
 exact key _ h
def z3i{F F':List (Nat×Rg)}(h:FOr F F')(hs:sameF F F'=true):F'=F:=by
 rcases h with h|rfl
 ·exact h
 ·cases F with
  |nil=>rfl
  |cons p r=>cases hs
variable {g:Sg}{os a b:Outs}{e:Ev}{Fr:List (Nat×Rg)}
def Thin(m:Gm)(os l:Outs):Prop:=(∀ F,OkF F l→OkF F os)∧∀ X QA,JWc X QA→OkQ m QA os→OkQ m QA l
def Thin.refl(l:Outs):Thin m l l:=⟨fun _ h=>h,fun _ _ _ h=>h⟩
def Thin.trans(h:Thin m os a)(k:Thin m a b):Thin m os b:=⟨fun F hf=>h.1 F (k.1 F hf),fun X QA hw hq=>k.2 X QA hw (h.2 X QA hw hq)⟩
def pk1_outs(p:Ex×FS):(pk1 p).outs=some [(p.1,⟨tL p.2.L.t,p.2.H,p.2.nx⟩)]:=by obtain⟨e,q⟩:=p;cases e<;>rfl
def pk1_ok{p:Ex×FS}(h:(pk1 p).outs=some os):Thin m os [p]:=by
 rw[pk1_outs] at h;injection h with h;subst h
 refine⟨fun F hf o ho=>?_,fun X QA hw hq o ho=>?_⟩
 ·rw[yyp.1 ho];exact hf p yyh
 ·rw[yyp.1 ho];exact hq (p.1,⟨tL p.2.L.t,p.2.H,p.2.nx⟩) yyh
def pkN_ok{l:Outs}(h:(pkN l).outs=some os):Thin m os l:=by
 unfold pkN at h;split at h
 ·exact pk1_ok h
 ·injection h with h;subst h;exact Thin.refl _
def j1p{s:Ex×FS}:∀ {l:Outs},s∈ddO l→s∈l
 |[],h=>h
 |p::r,h=>by
  have ih:=@j1p s r;rw[ddO] at h;cases hb:memO p r
  ·rw[hb] at h;rcases yyk.1 h with rfl|h
   ·exact yyh
   ·exact yyj _ (ih h)
  ·rw[hb] at h;exact yyj _ (ih h)
def j2f(l:Outs):Thin m (ddO l) l:=⟨fun F hf o ho=>hf o (j1p ho),fun X QA _ hq o ho=>hq o (z03 ho)⟩
def Thin.nz(l:Outs):Thin m (l.map (nzO m)) l:=by
 refine⟨fun F hf o ho=>?_,fun X QA hw hq o ho=>?_⟩
 ·obtain⟨q,h1,rfl⟩:=yy7.1 ho;rw[← hf q h1];show(bif m.kb then q.2.H else clrB q.2.H).F=_;cases m.kb<;>rfl
 ·refine hw _ _ _ ?_ (hq (nzO m o) (List.mem_map_of_mem ho));show JW X (st (m.of o.1) (prT (m.of o.1) o.2.L.t) (bif m.kb then o.2.H else clrB o.2.H) o.2.nx).toS (st (m.of o.1) o.2.L.t o.2.H o.2.nx).toS;refine JW.trans (s2:=(st (m.of o.1) o.2.L.t (bif m.kb then o.2.H else clrB o.2.H) o.2.nx).toS) (prR_w (L:=⟨m.of o.1,0,[],.e,o.2.L.t⟩)) ?_;cases m.kb
  ·exact clrB_w
  ·exact JW.refl _
def Thin.gc(l:Outs):Thin m (l.map gcO) l:=by
 refine⟨fun F hf o ho=>?_,fun X QA hw hq o ho=>?_⟩
 ·obtain⟨q,h1,rfl⟩:=yy7.1 ho;exact hf q h1
 ·refine hw _ _ _ ?_ (hq (gcO o) (List.mem_map_of_mem ho));exact gcH_w (t:=⟨m.of o.1,0,[],.e,o.2.L.t⟩)
def pkM_ok{l:Outs}(h:(pkM l).outs=some os):Thin m os l:=by
 unfold pkM at h;cases hb:Nat.blt 6 (lenG l)
 ·rw[hb] at h;exact pkN_ok h
 ·rw[hb] at h;exact((pkN_ok h).trans (j2f _)).trans (Thin.gc _)
def z3q{l:Outs}(h:(pk m l).outs=some os):Thin m os l:=by
 have key:∀ l:Outs,(pkM (ddO (l.map (nzO m)))).outs=some os→Thin m os l:=fun l h=>((pkM_ok h).trans (j2f _)).trans (Thin.nz _)
 match l,h with
 |[],h=>exact key [] h
 |[p],h=>exact pk1_ok h
 |p::q::r,h=>exact key _ h
def Cat(f:α→Option Outs)(os:List α)(l:Outs):Prop:=(∀ q∈os,∃ a,f q=some a∧∀ x∈a,x∈l)∧∀ x∈l,∃ q∈os,∃ a,f q=some a∧x∈a
def Cat.nil{f:α→Option Outs}:Cat f [] []:=⟨fun _ h=>absurd h yy9,fun _ h=>absurd h yy9⟩
def Cat.cons{f:α→Option Outs}{q:α}{os:List α}(h:f q=some a)(k:Cat f os b):Cat f (q::os) (a++b):=by
 refine⟨fun x hx=>?_,fun x hx=>?_⟩
 ·rcases yyk.1 hx with rfl|hx
  ·exact⟨a,h,fun x hx=>yxy _ hx⟩
  ·obtain⟨c,e1,e2⟩:=k.1 x hx;exact⟨c,e1,fun y hy=>List.mem_append_right _ (e2 y hy)⟩
 ·rcases yxd.1 hx with hx|hx
  ·exact⟨q,yyh,a,h,hx⟩
  ·obtain⟨p,e1,e2⟩:=k.2 x hx;exact⟨p,yyj _ e1,e2⟩
def Cat.okF{f:α→Option Outs}{os:List α}{l:Outs}(h:Cat f os l)(k:∀ q∈os,∀ a,f q=some a→OkF Fr a):OkF Fr l:=fun x hx=>by obtain⟨q,e1,a,e2,e3⟩:=h.2 x hx;exact k q e1 a e2 x e3
def Cat.okQ{f:α→Option Outs}{os:List α}{l:Outs}(h:Cat f os l)(hq:OkQ m QA l){q:α}(k:q∈os):∃ a,f q=some a∧OkQ m QA a:=by obtain⟨a,e1,e2⟩:=h.1 q k;exact⟨a,e1,fun x hx=>hq x (e2 x hx)⟩
variable{F F0:List (Nat×Rg)}
def mm_ok{q:Option (RV×RS)}(h:(mmK q k e T t F0).outs=some os):∃ v s',q=some (v,s')∧sameF F0 s'.H.F=true∧(k.ap e (.c v T) t s'.H s'.nx).outs=some os:=by
 cases q with
 |none=>cases h
 |some p=>
  obtain⟨v,L,H',n'⟩:=p;refine⟨v,⟨L,H',n'⟩,rfl,?_⟩;obtain⟨tr,F⟩:=H';have h':(mm1 n' ⟨tr,F⟩ v k e T t F0).outs=some os:=h;have h2:(mm2 ⟨tr,F⟩ v k e T t F0 n').outs=some os:=by cases n'<;>exact h'
  have h3:(@Bool.rec (fun _=>R1) .no (k.ap e (.c v T) t ⟨tr,F⟩ n') (sameF F0 F):R1).outs=some os:=h2;cases hs:sameF F0 F
  ·rw[hs] at h3;cases h3
  ·rw[hs] at h3;exact⟨rfl,h3⟩
def mm_g{s:Sg}(hw:s.wf)(hd:dstB n o.dst=true)(hk:KG P n m (AL all Q' l) (s.put o.dst) k):DG P n m all o (AL all Q' (o::l)) s (.mk (mmF P o.op (s.sm o.op.operands.toList) k)):=fun e T t H nx os he hg h=>by obtain⟨v,s',h1,h2,h3⟩:=mm_ok h;obtain⟨h4,h5⟩:=hk e _ t s'.H s'.nx os he h3;have hF:=z3i (evM_F h1) h2;rw[hF] at h4;exact⟨h4,fun X hm QA hQ ho=>JL.fm (q0c _) hg (by rw[hm.p];exact h1) (by rw[hm.n];exact hd) (q5u hw _ _) (h5 X hm QA hQ ho)⟩
def nxE_F{s:RS}{n' m' since last clk:Nat}{seen:List Nat}:∀ {es:Ents},∀ q∈nxE s n' m' since last clk seen es,q.2.H.F=s.H.F
 |[],q,h=>absurd h yy9
 |x::r,q,h=>by
  rcases yyk.1 h with rfl|h
  ·exact q74 _ _ _
  ·exact nxE_F q h
def nxR_F{os:List (RV×RS)}(h:nxR s x=some os):∀ q∈os,q.2.H.F=s.H.F:=by
 unfold nxR at h;split at h
 ·split at h
  ·split at h
   ·rename_i es clk _;cases hb:oldE _ es&&Nat.ble _ _
    ·rw[hb] at h;cases h
    ·rw[hb,cond_true] at h;split at h
     ·injection h with h;subst h
      intro q hq;rw[yyp.1 hq]
     ·injection h with h;subst h
      exact nxE_F
   ·cases h
  ·cases h
 ·cases h
def z9n:∀ {os:List (RV×RS)} {l:Outs},nxL k e T t os=some l→Cat (fun q=>(k.ap e (.c q.1 T) t q.2.H q.2.nx).outs) os l
 |[],l,h=>by injection h with h;subst h;exact Cat.nil
 |q::r,l,h=>by
  rw[nxL] at h;split at h
  ·rename_i a ha;split at h
   ·rename_i b hb;injection h with h;subst h
    exact Cat.cons ha (z9n hb)
   ·cases h
  ·cases h
def nx_g{s:Sg}(hh:o.op=.next x false)(hw:s.wf)(hd:dstB n o.dst=true)(hk:KG P n m (AL all Q' l) (s.put o.dst) k):DG P n m all o (AL all Q' (o::l)) s (.mk (nxF m x (s.sm o.op.operands.toList) k)):=fun e T t H nx os he hg h=>by
 have h':(nxF m x (s.sm o.op.operands.toList) k e T t H nx).outs=some os:=h;unfold nxF at h';split at h'
 ·rename_i rs hb;split at h'
  ·rename_i l' hl;have hc:=z9n hl;obtain⟨p1,p2⟩:=z3q h';refine⟨p1 _ (hc.okF fun q hq a ha=>?_),fun X hm QA hQ ho=>?_⟩
   ·have:=(hk e _ t q.2.H q.2.nx a he ha).1;rw[nxR_F hb q hq] at this;exact this
   ·refine JL.fn' (q0c _) hg hh hb (by rw[hm.n];exact hd) fun q hq=>⟨_,q5u hw _ _,?_⟩;obtain⟨a,e1,e2⟩:=hc.okQ (p2 X QA hQ ho) hq;exact(hk e _ t q.2.H q.2.nx a he e1).2 X hm QA hQ e2
  ·cases h'
 ·cases h'
variable {s:Sg}
def isLs(v:RV):Prop:=v=.nil∨∃ x r,v=.cons x r
def agG_ok{a r v:RV}(h:agG a r=v)(hv:isLs v):isNl a=false∧isLs r∧v=.cons a r:=by
 subst h;have no:¬ isLs .u:=fun h=>by rcases h with h|⟨_,_,h⟩<;>cases h
 have key:∀ a,isLs (agT r a)→isLs r∧agT r a=.cons a r:=fun a h=>by
  cases r
  case nil=>exact⟨.inl rfl,rfl⟩
  case cons x y=>exact⟨.inr ⟨_,_,rfl⟩,rfl⟩
  all_goals exact(no h).elim
 cases a
 case nil=>exact(no hv).elim
 all_goals exact⟨rfl,key _ hv⟩
def ag_ok{L:List Operand}:∀ {l:List Operand} {v:RV},(∀ x∈l,x∈L)→(agC s l).ap T t=v→isLs v→opvs ((s.sm L).ap T t) l=some v
 |[],v,_,h,_=>congrArg some h
 |x::r,v,hs,h,hv=>by obtain⟨h1,h2,h3⟩:=agG_ok (a:=(s.op x).ap T t) (r:=(agC s r).ap T t) h hv;rw[opvs,q17 (hs x yyh) rfl h1,ag_ok (fun y hy=>hs y (yyj _ hy)) rfl h2,h3]
def j19:∀ {sm:List (Nat×RV)} {l:List Operand} {v:RV},opvs sm l=some v→v.app .nil=v
 |sm,[],v,h=>by injection h with h;subst h;rfl
 |sm,x::r,v,h=>by
  rw[opvs] at h;split at h
  ·split at h
   ·rename_i b hb;injection h with h;subst h
    rw[RV.app,j19 hb]
   ·cases h
  ·cases h
def j15:∀ {xs:RV} {j d:Nat} {v:RV},lk (argR xs j) d=some v→j≤d
 |.cons a r,j,d,v,h=>by
  rw[argR,m8] at h;split at h
  ·omega
  ·have:=j15 h;omega
 |.i ..,_,_,_,h|.b _,_,_,_,h|.np,_,_,_,h|.ns,_,_,_,h|.fz,_,_,_,h|.nm,_,_,_,h|.u,_,_,_,h|.nil,_,_,_,h|.p ..,_,_,_,h|.s ..,_,_,_,h|.m _,_,_,_,h|.it _,_,_,_,h|.y _,_,_,_,h|.o ..,_,_,_,h|.f ..,_,_,_,h|.g _,_,_,_,h|.t _,_,_,_,h=>by cases h
def agP_ok{g:Nat}:∀ {xs:RV} {j d:Nat} {t:T2},isNl ((agP g xs j t).get d)=false→lk (argR xs j) d=some ((agP g xs j t).get d)∨(agP g xs j t).get d=t.get d
 |.cons a r,j,d,t,h=>by
  have e:agP g (.cons a r) j t=agP g r (Nat.succ j) (@Bool.rec (fun _=>T2) t ((pt j).out a t) (bitB g j)):=rfl;rw[e] at h ⊢;rcases agP_ok h with h1|h1
  ·left;have:=j15 h1;rw[argR,m8,if_neg (by omega)];exact h1
  ·rw[h1] at h ⊢;cases hb:bitB g j
   ·exact .inr rfl
   ·show _=some (T2.get ((pt j).out a t) d)∨T2.get ((pt j).out a t) d=_;rw[z1t];by_cases hd:j=d∧j<256
    ·rw[if_pos hd,argR,m8,if_pos hd.1];exact .inl rfl
    ·rw[if_neg hd];exact .inr rfl
 |.i ..,_,_,_,_|.b _,_,_,_,_|.np,_,_,_,_|.ns,_,_,_,_|.fz,_,_,_,_|.nm,_,_,_,_|.u,_,_,_,_|.nil,_,_,_,_|.p ..,_,_,_,_|.s ..,_,_,_,_|.m _,_,_,_,_|.it _,_,_,_,_|.y _,_,_,_,_|.o ..,_,_,_,_|.f ..,_,_,_,_|.g _,_,_,_,_|.t _,_,_,_,_=>.inr rfl
def j1k(d:Nat):T2.get (.e:T2) d=.nil:=by unfold T2.get;rw[q42];exact q42 _ _
def z1j{g:Nat}(h:isNl ((⟨g,0,[],.e,t⟩:Rg).get d)=false):d<512∧bitB g d=true∧(⟨g,0,[],.e,t⟩:Rg).get d=t.get d:=by
 unfold Rg.get at h ⊢;cases hb:Nat.blt d 512
 ·rw[hb] at h;cases h
 ·rw[hb] at h;have h:isNl (trg g t d)=false:=h;show _∧_∧trg g t d=_;unfold trg at h ⊢;cases hc:bitB g d
  ·rw[hc] at h;cases h
  ·exact⟨by simpa using hb,rfl,rfl⟩
def arg_ok{g:Nat}{xs:RV}:ArgT xs ⟨g,0,[],.e,agP g xs 0 .e⟩:=fun d hn=>by
 obtain⟨h1,h2,h3⟩:=z1j hn;rw[h3] at hn ⊢;rcases agP_ok hn with h|h
 ·exact h
 ·rw[h,j1k] at hn;cases hn
def z8u{L:List (Nat×RV)}{H:Hg}{a b:Nat}:∀ rs,rsR P ⟨L,H,a⟩ rs=rsR P ⟨L,H,b⟩ rs
 |[]=>rfl
 |x::r=>by have ih:=@z8u L H a b r;simp only[rsR,ih]
variable{rs:List ResultVar}
def ResOk.sub{sm:List (Nat×RV)}{r:AV}(hs:Sub sm L)(h:ResOk P rs (⟨sm,H,n⟩:RS).toS r):ResOk P rs (⟨L,H,n⟩:FS).toS r:=fun X M ρ a w fn hP hf h1 h2=>h X M ρ a w fn hP hf (q9w h1) (FS.reg hs h2)
def cr_ok{rm:Nat}(h:(crC P rm rs).ap t H=v)(hn:isNl v=false):ResOk P rs (st rm t H nx).toS (.raw v):=by
 have slow:∀ {rs:List ResultVar},crF P rs ((Sg.mk rm 0 []).sm (rsT rs)) t H=v→ResOk P rs (st rm t H nx).toS (.raw v):=fun {rs} h=>by
  unfold crF at h;cases hr:rsR P ⟨((Sg.mk rm 0 []).sm (rsT rs)).ap .e t,H,0⟩ rs with
  |none=>rw[hr] at h;exact(nlN h hn).elim
  |some r=>rw[hr] at h;rw[z8u (b:=nx)] at hr;have h:vlR r=v:=h;rw[← h];exact ResOk.sub (q0c _) (z3l hr)
 unfold crC at h;split at h
 ·rename_i d;have h:((Sg.mk rm 0 []).va ((Sg.mk rm 0 []).loc d)).ap .e t=v:=h;rw[q9l] at h;have hl:=sm_lk (s:=Sg.mk rm 0 []) (T:=.e) (t:=t) (l:=[.tmp d]) (d:=d) yyh (by rw[h];exact hn);rw[h] at hl;have hr:rsR P ⟨((Sg.mk rm 0 []).sm [.tmp d]).ap .e t,H,nx⟩ [.tmp d]=some (.cons v .nil):=by simp only[rsR,lq_eq,hl]
  exact ResOk.sub (q0c _) (z3l hr)
 ·exact slow h
def rsF_ok(h:(rsF L n0 v k e T t H nx).outs=some os):∃ H' n',(k.ap e (.c v T) t H' n').outs=some os∧H'.F=H.F∧∀ X d L',PutR d v L L'→JW X (⟨L',H',n'⟩:FS).toS (⟨L',H,nx⟩:FS).toS:=by
 have h:(@Bool.rec (fun _=>R1) (k.ap e (.c v T) t H nx) (k.ap e (.c v T) t ⟨(cut3 n0).out H.t,H.F⟩ n0) (rsB n0 v L H.F ((cut3 n0).out H.t)):R1).outs=some os:=h;cases hb:rsB n0 v L H.F ((cut3 n0).out H.t)
 ·rw[hb] at h;exact⟨_,_,h,rfl,fun X d L' _=>JW.refl _⟩
 ·rw[hb] at h;exact⟨_,_,h,rfl,fun X d L' hp=>JW.rs hp hb⟩
def rk3_ok(h:(rk3 v L n0 k e T t H nx).outs=some os):isNl v=false∧(rsF L n0 v k e T t H nx).outs=some os:=by
 cases v
 case nil=>cases h
 all_goals exact⟨rfl,h⟩
def putS_w{d:Option Nat}{v:AV}{A A':List (Nat×AV)}{B B':List (Nat×HO)}(hA:∀ d v,lk A d=some v→lk A' d=some v)(hB:∀ l q,lk B l=some q→lk B' l=some q):JW X (putS d v ⟨A,B,nx⟩) (putS d v ⟨A',B',nx⟩):=by
 cases d with
 |none=>exact q23 (s:=⟨A',B',nx⟩) hA fun l q hq=>⟨q,hB l q hq,HSub.refl _⟩
 |some d=>
  refine q23 (s:=⟨(d,v)::A',B',nx⟩) (fun e x hx=>?_) fun l q hq=>⟨q,hB l q hq,HSub.refl _⟩;rw[m8] at hx;show lk ((d,v)::A') e=_;rw[m8];split at hx
  ·rename_i hc;rw[if_pos hc];exact hx
  ·rename_i hc;rw[if_neg hc];exact hA _ _ hx
variable{t2:T2}
def z8z{rm n0 n2:Nat}{H2:Hg}(hw:s.wf)(he:EvOk P e)(hk:KG P n m (AL all Q' l) (s.put o.dst) k)(hF:H2.F=(n0,s.L T t)::F)
  (h:(retK (crC P rm rs) (s.L T t) F n0 k e T t t2 H2 n2).outs=some os):OkF F os∧∀ X,Mt P n e.dp e.rd X→∀ QA,JWc X QA→OkQ m QA os→∀ ex,(ex=.ret∨ex=.normal) →
   inlR X rs (fun r L H nx=>JL X true all (Q' X QA) l (putS o.dst r ⟨L,H,nx⟩)) ex (st rm t2 H2 n2).toS:=by
 unfold retK at h;cases hp:popB H2 n0 F e.dp
 ·rw[hp] at h;cases h
 ·rw[hp] at h;obtain⟨hn,h1⟩:=rk3_ok h;obtain⟨H',n',h2,h3,h4⟩:=rsF_ok h1;obtain⟨h5,h6⟩:=hk e _ t H' n' os he h2;rw[h3] at h5;refine⟨h5,fun X hm QA hQ ho ex ha=>?_⟩;obtain⟨p1,p2,p3⟩:=z87 hF hp;refine⟨ha,n0,mapT (s.L T t),.raw ((crC P rm rs).ap t2 H2),?_,?_,?_,?_⟩
  ·rw[hm.dp];exact p1
  ·rw[hm.p];exact cr_ok rfl hn
  ·rw[hm.dp];exact p2
  ·have h7:=h6 X hm QA hQ ho;have hR:=q5u (T:=T) (t:=t) hw o.dst ((crC P rm rs).ap t2 H2);exact q15 ((h4 X _ _ hR).trans ((z1s hR).trans (putS_w (fun _ _ h=>h) fun l q hq=>p3 l q hq))) h7
def retG(rs:Cr)(L:Rg)(F:List (Nat×Rg))(n0:Nat)(k:Ck)(e:Ev)(T:Sk)(t:T2)(q:Ex×FS):Option Outs:=
 match q.1 with
 |.ex _=>none
 |_=>(retK rs L F n0 k e T t q.2.L.t q.2.H q.2.nx).outs
def z42{rs:Cr}{L:Rg}{F:List (Nat×Rg)}{n0:Nat}:∀ {os l:Outs},retL rs L F n0 k e T t os=some l→Cat (retG rs L F n0 k e T t) os l
 |[],l,h=>by injection h with h;subst h;exact Cat.nil
 |q::r,l,h=>by
  rw[retL] at h;have key:∀ {q:Ex×FS},(match (retK rs L F n0 k e T t q.2.L.t q.2.H q.2.nx).outs with
   |some a=>(match retL rs L F n0 k e T t r with
    |some b=>some (a++b)
    |none=>none)
   |none=>none)=some l→retG rs L F n0 k e T t q=(retK rs L F n0 k e T t q.2.L.t q.2.H q.2.nx).outs→Cat (retG rs L F n0 k e T t) (q::r) l:=fun h hq=>by
   split at h
   ·rename_i a ha;split at h
    ·rename_i b hb;injection h with h;subst h
     exact Cat.cons (hq.trans ha) (z42 hb)
    ·cases h
   ·cases h
  obtain⟨ex,q⟩:=q;cases ex with
  |ex id=>cases h
  |nm=>exact key h rfl
  |rt=>exact key h rfl
def retF_ok{r:R1}{rs:Cr}(h:(retF r m rs L F n0 k e T t).outs=some os):∃ os1 l,r.outs=some os1∧Cat (retG rs L F n0 k e T t) os1 l∧Thin m os l:=by
 cases r with
 |no=>cases h
 |nm t2 H2 n2=>refine⟨_,os++[],rfl,Cat.cons (q:=((Ex.nm,⟨tL t2,H2,n2⟩):Ex×FS)) h Cat.nil,?_⟩;rw[yxj];exact Thin.refl _
 |ex id t2 H2 n2=>cases h
 |rt t2 H2 n2=>refine⟨_,os++[],rfl,Cat.cons (q:=((Ex.rt,⟨tL t2,H2,n2⟩):Ex×FS)) h Cat.nil,?_⟩;rw[yxj];exact Thin.refl _
 |mn os1=>
  have h:(match retL rs L F n0 k e T t os1 with|some l=>pk m l|none=>.no:R1).outs=some os:=h;split at h
  ·rename_i l hl;exact⟨os1,l,rfl,z42 hl,z3q h⟩
  ·cases h
variable{q:Ex×FS}
def z80{rm n0:Nat}(hw:s.wf)(he:EvOk P e)(hk:KG P n m (AL all Q' l) (s.put o.dst) k)(hF:q.2.H.F=(n0,s.L T t)::F)
  (h:retG (crC P rm rs) (s.L T t) F n0 k e T t q=some os):OkF F os∧∀ X,Mt P n e.dp e.rd X→∀ QA,JWc X QA→OkQ m QA os →
   inlR X rs (fun r L H nx=>JL X true all (Q' X QA) l (putS o.dst r ⟨L,H,nx⟩)) q.1.to ((Gm.mk rm rm [] false).fs q).toS:=by
 obtain⟨ex,q⟩:=q;cases ex with
 |ex id=>cases h
 |nm=>obtain⟨h1,h2⟩:=z8z hw he hk hF h;exact⟨h1,fun X hm QA hQ ho=>h2 X hm QA hQ ho _ (.inr rfl)⟩
 |rt=>obtain⟨h1,h2⟩:=z8z hw he hk hF h;exact⟨h1,fun X hm QA hQ ho=>h2 X hm QA hQ ho _ (.inl rfl)⟩
def fx_ok{n g rm:Nat}{cd:Code}{rs:Cr}(h:fxC P f=.mk n g rm cd rs):∃ fn,enR P f=some (fn,cd)∧n=fn.ntmps∧rm=rsM fn.results.toList∧g=lv rm cd rm []∧rs=crC P rm fn.results.toList:=by
 unfold fxC at h;split at h
 ·rename_i fn cd' hE;injection h with h1 h2 h3 h4 h5
  subst h3;subst h4;exact⟨fn,hE,h1.symm,rfl,h2.symm,h5.symm⟩
 ·cases h
def XOK.sub(h:XOK X){M0:Mem}{n:Nat}{rd:Option Nat}{up:Nat→Nat→Value}:XOK (X.sub M0 n rd up):=⟨h.t,h.e,h.m,h.mixed⟩
def ca_ok{cl:Call}{fst cap az:RV}(hw:s.wf)(hd:dstB n o.dst=true)(he:EvOk P e)(hk:KG P n m (AL all Q' l) (s.put o.dst) k)(hg:gdT all (s.L T t) o.guard=some true)
  (hv:o.op=.call cl) (hy:cl.callee=.value fo) {sm:List (Nat×RV)} (hA:Sub sm (s.L T t)) (hf:opv sm fo=some (.f f fst cap)) (ha:opvs sm cl.args.toList=some az)
  (h:(ca1 (fxC P f) m s (fst.app (az.app cap)) k e T t H nx).outs=some os):OkF H.F os∧∀ X,Mt P n e.dp e.rd X→∀ QA,JWc X QA→OkQ m QA os→AL all Q' (o::l) X QA ⟨s.L T t,H,nx⟩:=by
 cases hh:fxC P f with
 |no=>rw[hh] at h;cases h
 |mk n1 g rm cd rs=>
  obtain⟨fn,f1,rfl,f3,rfl,rfl⟩:=fx_ok hh;rw[hh] at h;generalize hj:fst.app (az.app cap)=xs at h;have h:(@Bool.rec (fun _=>R1) .no (retF (e.sub fn.ntmps none rm rm cd (agP (lv rm cd rm []) xs 0 .e) (pushF H nx (s.L T t)) (Nat.succ nx)) m (crC P rm fn.results.toList) (s.L T t) H.F nx k e T t) (bAnd (puB H nx e.dp) (Nat.ble xs.len fn.ntmps)):R1).outs=some os:=h;cases hb:bAnd (puB H nx e.dp) (Nat.ble xs.len fn.ntmps)
  ·rw[hb] at h;cases h
  ·rw[hb] at h;obtain⟨b1,b2⟩:=v5.1 hb;obtain⟨os1,l1,r1,r2,r3⟩:=retF_ok h;obtain⟨g1,g2⟩:=he _ _ _ _ _ _ _ _ _ r1;have hu:∀ q∈os1,q.2.H.F=(nx,s.L T t)::H.F:=fun q hq=>g1 q hq;refine⟨r3.1 _ (r2.okF fun q hq a ha=>(z80 hw he hk (hu q hq) ha).1),fun X hm QA hQ ho=>?_⟩;refine JL.fcall hA (SubT.refl _) hg hv hy hf ha (by rw[hm.p];exact f1) (by rw[hj];exact yyd b2) (by rw[hm.n];exact hd) (by rw[hm.dp];exact b1) (L0:=⟨lv rm cd rm [],0,[],.e,agP (lv rm cd rm []) xs 0 .e⟩) (by rw[hj];exact arg_ok) fun M0 up=>?_;have hB:Mt P fn.ntmps (e.dp+1) none (X.sub M0 fn.ntmps none up):=⟨hm.p,XOK.sub hm.ok,rfl,by show X.dp+1=e.dp+1;rw[hm.dp],rfl⟩;refine JC.cl (g2 _ hB _ q2i fun q hq=>z7i ?_);obtain⟨a,a1,a2⟩:=r2.okQ (r3.2 X QA hQ ho) hq;exact(z80 hw he hk (hu q hq) a1).2 X hm QA hQ a2
def inv(g:Nat)(t:T2)(L:List (Nat×AV)):Prop:=∀ d,d<512→isNl (trg g t d)=false→lk L d=some (.raw (trg g t d))
def z8k{g:Nat}:∀ {ps:List Tmp} {az:RV} {t t0:T2} {L:List (Nat×AV)},setP g ps az t=some t0→ps.all (fun p=>Nat.blt p 256)=true→inv g t L→∃ LA,setPs ps az.toAs L=some LA∧inv g t0 LA
 |[],az,t,t0,L,h,_,hi=>by
  cases az<;>first|(cases h;done)|skip
  injection h with h;subst h
  exact⟨L,rfl,hi⟩
 |p::ps,az,t,t0,L,h,hp,hi=>by
  cases az<;>first|(cases h;done)|skip
  rename_i a r;simp only[List.all_cons,yyc] at hp;have h:setP g ps r (bif bitB g p then(pt p).out a t else t)=some t0:=h;refine z8k (L:=(p,.raw a)::L) h hp.2 fun d hd hn=>?_;have ha:p<256:=by simpa using hp.1
  rw[m8];unfold trg at hn ⊢;cases hg:bitB g d
  ·rw[hg] at hn;cases hn
  ·rw[hg] at hn;simp only[cond_true] at hn ⊢;by_cases e:p=d
   ·subst e;rw[if_pos rfl,hg,cond_true,z1t,if_pos ⟨rfl,ha⟩]
   ·rw[if_neg e];have e2:T2.get (bif bitB g p then(pt p).out a t else t) d=t.get d:=by
     cases bitB g p
     ·rfl
     ·rw[cond_true,z1t,if_neg (fun q=>e q.1)]
    rw[e2] at hn ⊢;have:=hi d hd (by unfold trg;rw[hg];exact hn);unfold trg at this;rw[hg] at this;exact this
def nf_ok(h:nfB s n=true):n<512∧(s.L T t).get n=.nil:=by
 obtain⟨h1,h2⟩:=v5.1 h;refine⟨by simpa using h1,?_⟩;rw[q06];have hl:s.loc n=.r n∧bitB s.g n=false:=by
  unfold Sg.loc;rw[h1,cond_true];cases hb:bitB s.g n
  ·rw[hb] at h2;simp only[cond_false] at h2;cases hl:lk s.ε n with
   |none=>exact⟨rfl,rfl⟩
   |some x=>rw[hl] at h2;cases h2
  ·rw[hb] at h2;cases h2
 rw[hl.1];show(bif bitB s.g n then t.get n else .nil)=.nil;rw[hl.2];rfl
def z75(hw:s.wf)(h:nfB s n=true):YieR n lab (s.L T t) ((s.ali n (.c (.y lab))).L T t)∧lk (mapT ((s.ali n (.c (.y lab))).L T t)) n=some (.raw (.y lab)) ∧
  ∀ d v,lk (mapT (s.L T t)) d=some v→lk (del (mapT ((s.ali n (.c (.y lab))).L T t)) n) d=some v:=by
 obtain⟨h1,h2⟩:=nf_ok (T:=T) (t:=t) h;have hR:=ali_R (T:=T) (t:=t) hw n (.c (.y lab)) fun k hk=>by cases hk
 have hv:(s.va (.c (.y lab))).ap T t=.y lab:=rfl;rw[hv] at hR;have hn:((s.ali n (.c (.y lab))).L T t).get n=.y lab:=by
  rw[q06];have:(s.ali n (.c (.y lab))).loc n=.c (.y lab):=by unfold Sg.loc Sg.ali;rw[show Nat.blt n 512=true by simpa using h1];simp[m8]
  rw[this];rfl
 have ha:∀ d,d≠n→((s.ali n (.c (.y lab))).L T t).get d=(s.L T t).get d:=fun d hd=>by
  rw[q06,q06];have:(s.ali n (.c (.y lab))).loc d=s.loc d:=by unfold Sg.loc Sg.ali;simp only[m8,if_neg (Ne.symm hd)]
  rw[this];rfl
 refine⟨fun p hp=>?_,m6 hn rfl,fun d v hd=>?_⟩
 ·obtain⟨e1,e2⟩:=n9 (q7o hp);rw[m8];by_cases e:n=p.1
  ·rw[if_pos e,e1,← e,hn]
  ·rw[if_neg e,e1,ha _ (Ne.symm e)];exact m6 rfl (by rw[← ha _ (Ne.symm e)];exact e2)
 ·obtain⟨e1,e2⟩:=n9 hd;have hb:n≠d:=fun e=>by subst e;rw[h2] at e2;cases e2
  rw[q5z,if_neg hb,e1,← ha d (Ne.symm hb)];exact m6 rfl (by rw[ha d (Ne.symm hb)];exact e2)
def jmp_eq(x:Ex):jumpOf x.to=some (jmpO x):=by cases x<;>rfl
def jmpB_eq(x:Ex):(jmpO x).isNone=jmpB x:=by cases x<;>rfl
def upd_w{A:List (Nat×AV)}{o q:RO}(ho:isNo o=false)(ha:hq H lab=some q):JW X ⟨A,mapH (updR H lab o),nx⟩ ⟨A,updH (mapH H) lab o.toHO,nx⟩:=
 q23 (s:=⟨A,updH (mapH H) lab o.toHO,nx⟩) (fun _ _ h=>h) fun l x hx=>⟨x,by
  have hs:(lk (mapH H) lab).isSome=true:=by rw[lkH ha];rfl
  show lk (updH (mapH H) lab o.toHO) l=_;rw[q2u _ _ _ _ hs];rcases z1h ho hx with⟨e1,e2⟩|⟨e1,e2⟩
  ·rw[if_pos e1,e2]
  ·rw[if_neg (by have:=z7f ha;omega)];exact e1,HSub.refl _⟩
def j1w{x:Ex}(hw:s.wf)(hd:nfB s n=true)(he:EvOk P e)(hk:KG P n m (AL all Q' l) (s.put o.dst) k)(hF:H.F=(n0,(s.ali n (.c (.y lab))).L T t)::F)
  (h:(bodK (s.L T t) F n0 lab k e T t x H nx).outs=some os):OkF F os∧∀ X,Mt P n e.dp e.rd X→∀ QA,JWc X QA→OkQ m QA os→∀ g,
   bodyR X (fun b L H nx=>JL X true all (Q' X QA) l (putS o.dst (.raw (.b b)) ⟨L,H,nx⟩)) x.to (st g t2 H nx).toS:=by
 unfold bodK at h;cases hp:popB H n0 F e.dp
 ·rw[hp] at h;cases h
 ·rw[hp,cond_true] at h;split at h
  ·rename_i st0 pe ps az bd nO LO hg;obtain⟨H',n',h2,h3,h4⟩:=rsF_ok h;obtain⟨h5,h6⟩:=hk e _ t H' n' os he h2;rw[h3,q74] at h5;refine⟨h5,fun X hm QA hQ ho g=>?_⟩;obtain⟨p1,p2,p3⟩:=z87 hF hp;obtain⟨_,y2,y3⟩:=z75 (T:=T) (t:=t) (lab:=lab) hw hd;have ha:hq ⟨H.t,F⟩ lab=some (.loop st0 pe ps az bd nO LO):=by rw[hq_t (H:=⟨H.t,F⟩) (H':=H) rfl];exact hg
   have hb:=p3 _ _ (lkH ha);refine⟨jmpO x,jmp_eq x,n0,_,lab,st0,pe,ps,az,bd,nO,mapT LO,by rw[hm.dp];exact p1,by rw[hm.n];exact y2,hb,by rw[hm.dp];exact p2,?_⟩;have h7:=h6 X hm QA hQ ho;have hR:=q5u (T:=T) (t:=t) hw o.dst (.b (jmpB x));rw[jmpB_eq,hm.n];have e:(if jmpB x=true then LoopState.ready else .done)=bif jmpB x then .ready else .done:=by cases jmpB x<;>rfl
   rw[e];refine q15 ((h4 X _ _ hR).trans ((z1s hR).trans (putS_w y3 fun q z hz=>?_))) h7;have hs:(lk (del (mapH H) n0) lab).isSome=true:=by rw[hb];rfl
   show lk (updH (del (mapH H) n0) lab _) q=_;rw[q2u _ _ _ _ hs];rcases z1h rfl hz with⟨e1,e2⟩|⟨e1,e2⟩
   ·rw[if_pos e1,e2];rfl
   ·rw[if_neg (by have:=z7f ha;omega)];exact p3 _ _ e1
  ·cases h
def z58{L:Rg}{F:List (Nat×Rg)}{n0 lab:Nat}:∀ {os l:Outs},bodL L F n0 lab k e T t os=some l→Cat (fun q=>(bodK L F n0 lab k e T t q.1 q.2.H q.2.nx).outs) os l
 |[],l,h=>by injection h with h;subst h;exact Cat.nil
 |q::r,l,h=>by
  rw[bodL] at h;split at h
  ·rename_i a ha;split at h
   ·rename_i b hb;injection h with h;subst h
    exact Cat.cons ha (z58 hb)
   ·cases h
  ·cases h
def asgG(L:Rg)(F:List (Nat×Rg))(n0 lab n nO:Nat)(body:Code)(k:Ck)(e:Ev)(T:Sk)(t:T2)(q:Ex×FS):Option Outs:=
 match q.1 with
 |.nm=>asgK L F n0 lab n nO body k e T t q.2
 |_=>none
def z6d{L:Rg}{F:List (Nat×Rg)}{n0 lab nO:Nat}{body:Code}:∀ {os l:Outs},asgL L F n0 lab n nO body k e T t os=some l→Cat (asgG L F n0 lab n nO body k e T t) os l
 |[],l,h=>by injection h with h;subst h;exact Cat.nil
 |(x,q)::r,l,h=>by
  rw[asgL] at h;cases x with
  |nm=>
   simp only at h;split at h
   ·rename_i a ha;split at h
    ·rename_i b hb;injection h with h;subst h
     exact Cat.cons (q:=(.nm,q)) ha (z6d hb)
    ·cases h
   ·cases h
  |ex id=>cases h
  |rt=>cases h
def asg_ok{n0 lab nO:Nat}(hw:s.wf)(hb:nfB s n=true)(hd:F.length=e.dp)(he:EvOk P e)(hk:KG P n m (AL all Q' l) (s.put o.dst) k)(hF:q.2.H.F=(n0,(s.ali n (.c (.y lab))).L T t)::F)
  (h:asgG (s.L T t) F n0 lab n nO body k e T t q=some os):OkF F os∧∀ X,Mt P n e.dp e.rd X→∀ QA,JWc X QA→OkQ m QA os→∀ X',Mt P nO (e.dp+1) (some (e.dp,n)) X' →
   asgR X nO (fun s1=>JC X' body (bodyR X fun b L H nx=>JL X true all (Q' X QA) l (putS o.dst (.raw (.b b)) ⟨L,H,nx⟩)) s1) q.1.to ((Gm.mk 0 (lv 0 body 0 []) [] false).fs q).toS:=by
 obtain⟨x,q⟩:=q;cases x with
 |ex id=>cases h
 |rt=>cases h
 |nm=>
  have h:asgK (s.L T t) F n0 lab n nO body k e T t q=some os:=h;unfold asgK at h;split at h
  ·rename_i ps az bd n1 LO hh;cases hg:noH q.H n0
   ·rw[hg] at h;cases h
   ·rw[hg,cond_true] at h;split at h
    ·rename_i os2 h2;have hc:=z58 h;obtain⟨g1,g2⟩:=he _ _ _ _ _ _ _ _ _ h2;have hj:∀ p∈os2,p.2.H.F=(n0,(s.ali n (.c (.y lab))).L T t)::F:=fun p hp=>by have:=g1 p hp;rw[q74] at this;exact this.trans hF
     refine⟨hc.okF fun p hp a ha=>(j1w (t2:=t) hw hb he hk (hj p hp) ha).1,fun X hm QA hQ ho X' hu=>?_⟩;obtain⟨_,y2,_⟩:=z75 (T:=T) (t:=t) (lab:=lab) hw hb;refine⟨rfl,n0,_,lab,ps,az,bd,n1,mapT LO,?_,by rw[hm.n];exact y2,lkH hh,?_⟩
     ·rw[hm.dp];rw[← hd];exact z5i hF (z1z hg)
     ·refine q0g (upd_w (o:=.loop .busy none ps az bd n1 LO) rfl hh) (JC.cl (g2 X' hu _ q2i fun p hp=>z7i ?_));obtain⟨a,a1,a2⟩:=hc.okQ ho hp;exact(j1w (t2:=p.2.L.t) hw hb he hk (hj p hp) a1).2 X hm QA hQ a2 _
    ·cases h
  ·cases h
def yi_ok{cl:Call}{az:RV}(hw:s.wf)(hj:nfB s n=true)(hd:dstB n o.dst=true)(he:EvOk P e)(hk:KG P n m (AL all Q' l) (s.put o.dst) k)(hg:gdT all (s.L T t) o.guard=some true)
  (hA:o.op=.call cl) (hB:cl.callee=.value fo) {sm:List (Nat×RV)} (hC:Sub sm (s.L T t)) (hf:opv sm fo=some (.y lab)) (ha:opvs sm cl.args.toList=some az)
  (h:(yiF lab az m s n k e T t H nx).outs=some os):OkF H.F os∧∀ X,Mt P n e.dp e.rd X→∀ QA,JWc X QA→OkQ m QA os→AL all Q' (o::l) X QA ⟨s.L T t,H,nx⟩:=by
 unfold yiF at h;split at h
 ·rename_i ps assign body nO gO hO TO tO hD;split at h
  ·rename_i t0 hE;cases hb:psB ps.toList nO&&puB H nx e.dp&&subM (lv 0 assign (lv 0 body 0 []) []) gO
   ·rw[hb] at h;cases h
   ·rw[hb,cond_true] at h;simp only[yyc] at hb;obtain⟨⟨b1,b2⟩,b3⟩:=hb;split at h
    ·rename_i os1 r1;split at h
     ·rename_i l1 hF;have hc:=z6d hF;have r3:=z3q h;obtain⟨g1,g2⟩:=he _ _ _ _ _ _ _ _ _ r1;have hu:∀ q∈os1,q.2.H.F=(nx,(s.ali n (.c (.y lab))).L T t)::H.F:=fun q hq=>g1 q hq;have hh:=(puB_ok b2).1;refine⟨r3.1 _ (hc.okF fun q hq a ha=>(asg_ok hw hj hh he hk (hu q hq) ha).1),fun X hm QA hQ ho=>?_⟩;have p2:ps.toList.all (fun p=>Nat.blt p nO)=true∧ps.toList.all (fun p=>Nat.blt p 256)=true:=by have b1:ps.toList.all (fun p=>Nat.blt p nO&&Nat.blt p 256)=true:=b1;simp only[yyx,yyc] at b1 ⊢;exact⟨fun p hp=>(b1 p hp).1,fun p hp=>(b1 p hp).2⟩
      obtain⟨LA,l1',l2⟩:=z8k (L:=mapT ⟨gO,hO,[],TO,tO⟩) hE p2.2 fun d hd hn=>by
       have:(⟨gO,hO,[],TO,tO⟩:Rg).get d=trg gO tO d:=by unfold Rg.get;rw[show Nat.blt d 512=true by simpa using hd];rfl
       exact m6 this hn
      refine j2v hC (SubT.refl _) hg hA hB hf ha hD l1' (L0:=⟨lv 0 assign (lv 0 body 0 []) [],0,[],.e,t0⟩) (fun d x hx=>?_) p2.1 (by rw[hm.n];exact hd) (by rw[hm.dp];exact b2) (Lf:=(s.ali n (.c (.y lab))).L T t) (by rw[hm.n];exact(z75 hw hj).1) fun M0 up bl hG=>?_
      ·obtain⟨e1,e2⟩:=n9 hx;obtain⟨q1,q2,q3⟩:=z1j e2;have hH:bitB gO d=true:=by rw[q0t];exact q4y.1 b3 d (by rw[← q0t];exact q2)
       have hv:trg gO t0 d=t0.get d:=by unfold trg;rw[hH];rfl
       rw[e1,q3,← hv];exact l2 d q1 (by rw[hv,← q3];exact e2)
      ·have hy:Mt P nO (e.dp+1) (some (e.dp,n)) (X.sub M0 nO (some bl) up):=⟨hm.p,XOK.sub hm.ok,rfl,by show X.dp+1=e.dp+1;rw[hm.dp],bl,rfl,by rw[← hm.dp,← hm.n];exact hG⟩;refine JC.cl (g2 _ hy _ q2i fun q hq=>z7i ?_);obtain⟨a,a1,a2⟩:=hc.okQ (r3.2 X QA hQ ho) hq;exact(asg_ok hw hj hh he hk (hu q hq) a1).2 X hm QA hQ a2 _ hy
     ·cases h
    ·cases h
  ·cases h
 ·cases h
def agK_ok{fx:Fx}(h:(agK v fx m s k e T t H nx).outs=some os):isLs v∧(ca1 fx m s v k e T t H nx).outs=some os:=by
 cases v
 case nil=>exact⟨.inl rfl,h⟩
 case cons x r=>exact⟨.inr ⟨_,_,rfl⟩,h⟩
 all_goals cases h
def dcG_ok{v fo:RV}(h:(dcG v P n fo m s k e T t H nx).outs=some os):isLs v∧(dcK fo P n v m s k e T t H nx).outs=some os:=by
 cases v
 case nil=>exact⟨.inl rfl,h⟩
 case cons x r=>exact⟨.inr ⟨_,_,rfl⟩,h⟩
 all_goals cases h
def cl_g{cl:Call}(hb:o.op=.call cl)(hh:cl.callee=.value fo)(hw:s.wf)(hd:dstB n o.dst=true)(hk:KG P n m (AL all Q' l) (s.put o.dst) k):DG P n m all o (AL all Q' (o::l)) s (clC P n m s fo cl.args.toList k):=fun e T t H nx os he hg h=>by
 have slow:((bif nfB s n then Ck.mk (dcF P n (s.op fo) (agC s cl.args.toList) m s k) else noK).ap e T t H nx).outs=some os→OkF H.F os∧∀ X,Mt P n e.dp e.rd X→∀ QA,JWc X QA→OkQ m QA os→AL all Q' (o::l) X QA ⟨s.L T t,H,nx⟩:=fun h=>by
  cases hj:nfB s n
  ·rw[hj] at h;cases h
  ·rw[hj] at h;have h:(dcG ((agC s cl.args.toList).ap T t) P n ((s.op fo).ap T t) m s k e T t H nx).outs=some os:=h;obtain⟨h1,h2⟩:=dcG_ok h;have ha:=ag_ok (L:=fo::cl.args.toList) (fun x hx=>yyj _ hx) rfl h1;cases hu:(s.op fo).ap T t<;>rw[hu] at h2<;>first|(cases h2;done)|skip
   ·exact yi_ok hw hj hd he hk hg hb hh (q0c _) (q17 yyh hu rfl) ha h2
   ·exact ca_ok hw hd he hk hg hb hh (q0c _) (q17 yyh hu rfl) ha h2
 unfold clC at h;split at h
 ·rename_i f;obtain⟨h1,h2⟩:=agK_ok (fx:=fxC P f) (v:=(agC s cl.args.toList).ap T t) h;have ha:=ag_ok (L:=cl.args.toList) (fun x hx=>hx) rfl h1;refine ca_ok (fst:=.nil) (cap:=.nil) hw hd he hk hg hb hh (q0c _) rfl ha ?_;have e:(RV.nil).app (((agC s cl.args.toList).ap T t).app .nil)=(agC s cl.args.toList).ap T t:=by show((agC s cl.args.toList).ap T t).app .nil=_;exact j19 ha
  rw[e];exact h2
 ·exact slow h
variable {B:Ctx→(Exit→S→Prop)→FS→Prop}
def celV_ok{v x r:RV}(h:celV v=.cons x r):v.cel=some (.cons x r)∧isNl v=false:=by
 cases v
 case g c=>
  have h:(@Bool.rec (fun _=>RV) .nil c c.ones:RV)=.cons x r:=h;refine⟨?_,rfl⟩;show(bif c.ones then some c else none)=_;cases hb:c.ones
  ·rw[hb] at h;cases h
  ·rw[hb] at h;have h:c=.cons x r:=h;rw[h];rfl
 all_goals first|(cases h;done)|exact⟨congrArg some h,rfl⟩
def stoT_ok{tr:Tr}{l:Nat}{kk:Option Nat}{nn d:Nat}:stoT tr l ty kk nn d k e T t H nx=k.ap e (.c .u T) t ⟨(hcp l).ap (.blk ty kk nn d tr) H.t,H.F⟩ nx:=by cases tr<;>rfl
def sto_g{sz:Nat}(ha:o.op=.store ty x y)(hj:evS P (Go.sizeOf ty)=some sz)(hw:s.wf)(hd:dstB n o.dst=true)(hk:KG P n m (AL all Q' l) (s.put o.dst) k) :
  DG P n m all o (AL all Q' (o::l)) s (.mk (stoF sz (s.op x) (s.op y) k)):=fun e T t H nx os he hg h=>by
 have h:(stoP ((s.op x).ap T t) ((s.op y).ap T t) sz k e T t H nx).outs=some os:=h;cases hx:(s.op x).ap T t<;>rw[hx] at h<;>first|(cases h;done)|skip
 rename_i lb q;have h:(stoQ (celV ((s.op y).ap T t)) sz lb q k e T t H nx).outs=some os:=h;cases hc:celV ((s.op y).ap T t)<;>rw[hc] at h<;>first|(cases h;done)|skip
 rename_i a r;have h:(stoB ((hca lb).ap H.t) sz (.cons a r) lb q k e T t H nx).outs=some os:=h;cases hb:(hca lb).ap H.t<;>rw[hb] at h<;>first|(cases h;done)|skip
 rename_i bt kk nn d tr;have h:(@Bool.rec (fun _=>R1) .no (stoT (Tr.put d (.cons a r) tr q) lb bt kk nn d k e T t H nx) (bAnd (Nat.beq (RV.cons a r).len sz) (bAnd (Nat.ble (Nat.add q sz) nn) (Nat.ble nn (Nat.pow 2 d)))):R1).outs=some os:=h;cases hh:bAnd (Nat.beq (RV.cons a r).len sz) (bAnd (Nat.ble (Nat.add q sz) nn) (Nat.ble nn (Nat.pow 2 d)))
 ·rw[hh] at h;cases h
 ·rw[hh] at h;have h:(stoT (Tr.put d (.cons a r) tr q) lb bt kk nn d k e T t H nx).outs=some os:=h;rw[stoT_ok] at h;obtain⟨h1,h2⟩:=hk e _ t _ nx os he h;obtain⟨b1,b2⟩:=v5.1 hh;obtain⟨b2,b3⟩:=v5.1 b2;obtain⟨c1,c2⟩:=celV_ok hc;have hv:hq H lb=some (.blk bt kk nn d tr):=by unfold hq;rw[hb];rfl
  have hu:(⟨(hcp lb).ap (.blk bt kk nn d (Tr.put d (.cons a r) tr q)) H.t,H.F⟩:Hg)=updR H lb (.blk bt kk nn d (Tr.put d (.cons a r) tr q)):=by unfold updR;rfl
  have hy:evM P ⟨(s.sm o.op.operands.toList).ap T t,H,nx⟩ o.op=some (.u,⟨(s.sm o.op.operands.toList).ap T t,updR H lb (.blk bt kk nn d (Tr.put d (.cons a r) tr q)),nx⟩):=by
   rw[j1c];have ox:=q17 (s:=s) (T:=T) (t:=t) (l:=o.op.operands.toList) (x:=x) (by rw[ha];simp[Op.operands]) hx rfl;have oy:=q17 (s:=s) (T:=T) (t:=t) (l:=o.op.operands.toList) (x:=y) (by rw[ha];simp[Op.operands]) rfl c2;generalize (s.sm o.op.operands.toList).ap T t=sm at ox oy ⊢;rw[ha];show m_store P ⟨sm,H,nx⟩ ty x y=_;unfold m_store;have e1:(Nat.beq (RV.cons a r).len sz&&Nat.ble (q+sz) nn&&Nat.ble nn (2 ^ d))=true:=by rw[b1,show Nat.ble (q+sz) nn=true from b2,show Nat.ble nn (2 ^ d)=true from b3];rfl
   simp only[ox,hv,oy,c1,hj,e1,cond_true]
  exact⟨h1,fun X hm QA hQ ho=>JL.fm (q0c _) hg (by rw[hm.p];exact hy) (by rw[hm.n];exact hd) (q5u hw _ _) (by rw[← hu];exact h2 X hm QA hQ ho)⟩
def stO_ok{op:Op}{q:Nat×Operand×Operand}(h:stO P op=some q):∃ ty,op=.store ty q.2.1 q.2.2∧evS P (Go.sizeOf ty)=some q.1:=by
 unfold stO at h;split at h
 ·split at h
  ·rename_i sz hs;injection h with h;subst h
   exact⟨_,rfl,hs⟩
  ·cases h
 ·cases h
def do_g(hw:s.wf)(hd:dstB n o.dst=true)(hk:KG P n m (AL all Q' l) (s.put o.dst) k):DG P n m all o (AL all Q' (o::l)) s (doC P n m s o k):=by
 unfold doC;split
 ·rename_i q hq;obtain⟨ty,h1,h2⟩:=stO_ok hq;exact sto_g h1 h2 hw hd hk
 ·cases hb:memB o.op
  ·rw[cond_false];split
   ·rename_i cl ha;split
    ·rename_i fo he;exact cl_g ha he hw hd hk
    ·exact pd_g hw hd hk
   ·rename_i x ha;exact nx_g ha hw hd hk
   ·exact pd_g hw hd hk
  ·exact mm_g hw hd hk
def op_g(hw:s.wf)(hk:KG P n m (AL all Q' l) (s.put o.dst) k):KG P n m (AL all Q' (o::l)) s (opC P n m s all o k):=by
 unfold opC;cases hd:dstB n o.dst
 ·exact z1y
 ·cases hp:isPv o.op
  ·exact gd_g hw hd (do_g hw hd hk) hk
  ·exact pv_g hw hd hk
def KG.mono(h:∀ X QA q,XOK X→A X QA q→B X QA q)(hk:KG P n m A s k):KG P n m B s k:=fun e T t H nx os he ho=>by obtain⟨h1,h2⟩:=hk e T t H nx os he ho;exact⟨h1,fun X hm QA hQ hq=>h X QA _ hm.ok (h2 X hm QA hQ hq)⟩
def ops_g:∀ (l:List Oper) (s:Sg),s.wf→KG P n m (AL all (fun _ QA=>QA) l) s (opsC P n m all m.out l s)
 |[],s,_=>en_g fun X QA q h=>JL.nil h
 |o::l,s,hw=>by
  have ih:∀ s,s.wf→KG P n m (AL all (fun _ QA=>QA) l) s (opsC P n m all m.out l s):=fun s hw=>ops_g l s hw;show KG P n m _ s (match mvO o with
   |some p=>bif dstB n o.dst then opsC P n m all m.out l (s.ali p.1 (s.lo p.2)) else noK
   |none=>opC P n m s all o (opsC P n m all m.out l (s.put o.dst)))
  split
  ·rename_i p hp;cases hd:dstB n o.dst
   ·exact z1y
   ·exact mv_g hw hp hd (ih _ (ali_wf hw _ _ (lo_wf hw _)))
  ·exact op_g hw (ih _ (put_wf hw _))
def mm0_ok{q:RS}(h:(mm0 v q k e T t F0).outs=some os):sameF F0 q.H.F=true∧(k.ap e (.c v T) t q.H q.nx).outs=some os:=by
 obtain⟨v',s',h1,h2,h3⟩:=mm_ok (q:=some (v,q)) h;injection h1 with h1
 injection h1 with h1 ha
 subst h1;subst ha;exact⟨h2,h3⟩
def z0j{a l n:Nat}(h:Nat.beq (Nat.land a (Nat.lor (Nat.shiftLeft 1 l) (Nat.shiftLeft 1 n))) 0=true):nb a l∧nb a n:=by
 have e:a &&& (Nat.lor (Nat.shiftLeft 1 l) (Nat.shiftLeft 1 n))=0:=yyg h;have bit:∀ j,(Nat.lor (Nat.shiftLeft 1 l) (Nat.shiftLeft 1 n)).testBit j=(decide (l=j)||decide (n=j)):=fun j=>by rw[s9];show((bitD l).testBit j||(bitD n).testBit j)=_;rw[q5m,q5m]
 constructor
 ·have:=congrArg (fun z=>z.testBit l) e;simp only[yx3,Nat.zero_testBit,bit,decide_true,Bool.true_or,Bool.and_true] at this;exact this
 ·have:=congrArg (fun z=>z.testBit n) e;simp only[yx3,Nat.zero_testBit,bit,decide_true,Bool.or_true,Bool.and_true] at this;exact this
def sh_one{a n:Nat}(h:Nat.beq (Nat.land a (Nat.shiftLeft 1 n)) 0=true):nb a n:=by have e:a &&& bitD n=0:=yyg h;have:=congrArg (fun z=>z.testBit n) e;simp only[yx3,Nat.zero_testBit,q5m,decide_true,Bool.and_true] at this;exact this
def rsv_g(hw:s.wf)(hd:dstB n o.dst=true)(hk:KG P n m (AL all Q' l) (s.put o.dst) k):DG P n m all o (AL all Q' (o::l)) s (.mk (rsvF P s o.op (s.sm o.op.operands.toList) j k)):=fun e T t H nx os he hg h=>by
 have h:(rsvF P s o.op (s.sm o.op.operands.toList) j k e T t H nx).outs=some os:=h;unfold rsvF at h;split at h
 ·rename_i v q ha;have hj:=evM_F ha;have old:(mm0 v q k e T t H.F).outs=some os→OkF H.F os∧∀ X,Mt P n e.dp e.rd X→∀ QA,JWc X QA→OkQ m QA os→AL all Q' (o::l) X QA ⟨s.L T t,H,nx⟩:=fun h=>by obtain⟨h2,h3⟩:=mm0_ok h;obtain⟨h4,h5⟩:=hk e _ t q.H q.nx os he h3;rw[z3i hj h2] at h4;exact⟨h4,fun X hm QA hQ ho=>JL.fm (q0c _) hg (by rw[hm.p];exact ha) (by rw[hm.n];exact hd) (q5u hw _ _) (h5 X hm QA hQ ho)⟩
  unfold rsvO at h;split at h
  ·rename_i ob hv
   revert h
   generalize hl:Nat.add e.rb j=lb;generalize hC:v.ren (swp nx lb)=v';intro h;cases hb:Nat.beq q.nx (Nat.succ nx)&&rsvB nx lb v v' (s.L T t) q.H ob&&sameF H.F q.H.F
   ·rw[hb,cond_false] at h;exact old h
   ·rw[hb,cond_true] at h;simp only[yyc] at hb;obtain⟨⟨b1,b2⟩,b3⟩:=hb;have b1:=yyg b1;have hF:=z3i hj b3;simp only[rsvB,yyc] at b2;obtain⟨⟨⟨⟨⟨⟨⟨c1,c2⟩,c3⟩,c4⟩,c5⟩,c6⟩,c7⟩,c8⟩:=b2;obtain⟨h4,h5⟩:=hk e _ t _ _ os he h;refine⟨by rw[hF] at h4;exact h4,fun X hm QA hQ ho=>?_⟩;refine JL.fm (q0c _) hg (by rw[hm.p];exact ha) (by rw[hm.n];exact hd) (q5u hw _ _) (q15 ?_ (h5 X hm QA hQ ho));rw[b1];obtain⟨d1,d2⟩:=z0j c3;obtain⟨d3,d4⟩:=z0j c4;obtain⟨d5,d6⟩:=z0j c5;obtain⟨d7,d8⟩:=z0j c6;refine JW.rsv (v:=v) (v':=v') (L:=s.L T t) (t:=q.H.t) (F:=q.H.F) (by simpa using c1) hv (z1z c2) d2 d1 d4 d3 d6 d5 d8 d7 (m9 c7) (sh_one c8) fun x hx=>?_;rcases q5u (T:=T) (t:=t) hw o.dst v' x hx with⟨p1,p2⟩|⟨p1,p2⟩
    ·refine .inl ⟨p2,?_⟩;have hy:x<512:=by refine Nat.lt_of_not_le fun hc=>?_;rw[q6v (by omega)] at hx;cases hx
     rw[p1];have:=z0d (T:=T) (t:=t) hw x x v hy;rw[if_pos rfl] at this;exact this
    ·refine .inr ⟨p2,?_⟩;have hA:o.dst≠some x:=p1;have e2:∀ u,((s.put o.dst).L (.c u T) t).get x=(s.L T t).get x:=fun u=>by
      cases hh:o.dst with
      |none=>rw[q06,q06];have:(s.put none).loc x=s.loc x:=rfl;rw[this];exact q7t fun k hk=>z12 hw x k hk
      |some d=>
       have hB:d≠x:=fun c=>hA (by rw[hh,c]);by_cases hu:d<512
       ·have:=z0d (T:=T) (t:=t) hw d x u hu;rw[if_neg hB] at this;exact this
       ·exact z44 hw d x u hu
     exact e2 v
  ·exact old h
 ·cases h
def opD_g(hw:s.wf)(hk:KG P n m (AL all Q' l) (s.put o.dst) k):KG P n m (AL all Q' (o::l)) s (opD P n m s all j o k):=by
 unfold opD;cases ha:alcB o.op
 ·exact op_g hw hk
 ·rw[cond_true];cases hd:dstB n o.dst
  ·exact z1y
  ·exact gd_g hw hd (rsv_g hw hd hk) hk
variable {ops:List Oper}{ls:List Nat}{fl:List Pr}{fuel lm fm:Nat}
def AF(ops:List Oper)(fl:List Nat)(fuel:Nat)(ls:List Nat):Ctx→(Exit→S→Prop)→FS→Prop:=fun X QA q=>JF X ops (fun s=>QA .normal s) fl fuel ls q.toS
def FlOk(ops:List Oper)(n:Nat)(ls:List Nat)(fl:List Pr):Prop:=∀ f∈fl,ops[f.j]?=some f.o∧f.af=afM f.o.after.toList∧Nat.ble (kdB ops f.o) 1=true∧dstB n f.o.dst=true∧f.j∈ls∧∀ e∈f.o.after.toList,Region.binds .any e=true→e.on∈ls
def js(fl:List Pr):List Nat:=fl.map (·.j)
def FlOk.two(h:FlOk ops n ls fl):∀ f∈js fl,f∈ls∧∃ q,ops[f]?=some q∧Nat.ble (kdB ops q) 1=true:=fun f hf=>by obtain⟨p,hp,rfl⟩:=yy7.1 hf;obtain⟨h1,_,h3,_,h4,_⟩:=h p hp;exact⟨h4,p.o,h1,h3⟩
def FlOk.nd(h:FlOk ops n ls fl):∀ f∈js fl,f∈ls∧∃ q,ops[f]?=some q∧Nat.ble (kdB ops q) 1=true∧∀ e∈q.after.toList,Region.binds .any e=true→e.on∈ls:=fun f hf=>by obtain⟨p,hp,rfl⟩:=yy7.1 hf;obtain⟨h1,_,h3,_,h4,h5⟩:=h p hp;exact⟨h4,p.o,h1,h3,h5⟩
def FlOk.sub{fl':List Pr}(h:FlOk ops n ls fl)(hs:∀ f∈fl',f∈fl):FlOk ops n (i::ls) fl':=fun f hf=>by obtain⟨h1,h2,h3,h4,h5,h6⟩:=h f (hs f hf);exact⟨h1,h2,h3,h4,yyj _ h5,fun e he hb=>yyj _ (h6 e he hb)⟩
def JF.w{ops:List Oper}{K:S→Prop}{fl:List Nat}{fuel:Nat}{ls:List Nat}{s s':S}(hw:JW X s s')(h:JF X ops K fl fuel ls s):JF X ops K fl fuel ls s':=by intro M ρ a a' w l fr ha hb hl hp h1 h2;obtain⟨ρ',e1,e2⟩:=hw M ρ a' w h1 h2;exact h M ρ' a a' w l fr ha hb hl hp e1 e2
def gv_sem(hP:X.P=P)(h:(gvC P s ops o).ap T t H nx=v)(hn:isNl v=false):∀ M ρ a w,SAT X M ρ (⟨s.L T t,H,nx⟩:FS).toS w→REG X M ρ (⟨s.L T t,H,nx⟩:FS).toS a→(AV.raw v).bd nx∧∃ z,(AV.raw v).rv M ρ z ∧
  ((Region.wanted o (yielded ops.toArray a.tmps)=true∧(execOp a.eval o).run X.P w=.ok (.value z) w)∨(Region.wanted o (yielded ops.toArray a.tmps)=false∧z=Go.undef)):=by
 intro M ρ a w h1 h2;rcases gv_ok h hn with⟨g1,g2⟩|⟨g1,g2⟩
 ·obtain⟨hy,_⟩:=evR_ok (X:=X) (o:=o) (by rw[hP];exact g2);obtain⟨e1,e2⟩:=hy M ρ a w (q9w h1) (FS.reg (q0c _) h2);exact⟨e1,_,rfl,.inl ⟨q2g g1 h2,e2 w (Below.refl _ _)⟩⟩
 ·subst g2;exact⟨trivial,_,rfl,.inr ⟨q2g g1 h2,rfl⟩⟩
def gv_semA(hP:X.P=P)(hp:pureB o.op=true)(h:(gvC P s ops o).ap T t H nx=v)(hn:isNl v=false):∀ M ρ a w,SAT X M ρ (⟨s.L T t,H,nx⟩:FS).toS w→REG X M ρ (⟨s.L T t,H,nx⟩:FS).toS a →
  (AV.raw v).bd nx∧∃ z,(AV.raw v).rv M ρ z∧YA X.P ops.toArray o z a:=by
 intro M ρ a w h1 h2;rcases gv_ok h hn with⟨g1,g2⟩|⟨g1,g2⟩
 ·obtain⟨e1,e2⟩:=evR_okA (X:=X) (o:=o) hp (by rw[hP];exact g2) M ρ a w (q9w h1) (FS.reg (q0c _) h2);exact⟨e1,_,rfl,.inl ⟨q2g g1 h2,e2⟩⟩
 ·subst g2;exact⟨trivial,_,rfl,.inr ⟨q2g g1 h2,rfl⟩⟩
def stB_ok(hP:X.P=P)(hn:X.n=n):∀ {fl:List Pr},FlOk ops n ls fl→stB P s ops T t H nx fl=true→StF X ops (⟨s.L T t,H,nx⟩:FS).toS (js fl)
 |[],_,_=>trivial
 |p::r,hf,h=>by
  rw[stB,yyc] at h;refine⟨?_,stB_ok hP hn (fun f ha=>hf f (yyj _ ha)) h.2⟩;obtain⟨f1,_,_,f4,_⟩:=hf p yyh;have h:=h.1;split at h
  ·rename_i d hd;simp only[yyc,yyv] at h;obtain⟨⟨h1,h2⟩,h3⟩:=h;have e:=m9 h3;rw[q9l] at e;refine⟨⟨p.o,d,.raw _,f1,hd,?_,h2,m6 e.symm h1,fun _=>gv_sem hP rfl h1⟩⟩;rw[hd] at f4;rw[hn];exact f4
  ·cases h
def st_g(hk:KG P n m B s k)(hf:FlOk ops n ls fl)(h:∀ X QA q,XOK X→StF X ops q.toS (js fl)→B X QA q→A X QA q):KG P n m A s (stC P s ops fl k):=fun e T t H nx os he ho=>by
 unfold stC at ho;split at ho
 ·obtain⟨h1,h2⟩:=hk e T t H nx os he ho;exact⟨h1,fun X hm QA hQ hq=>h X QA _ hm.ok trivial (h2 X hm QA hQ hq)⟩
 ·have ho:(@Bool.rec (fun _=>R1) .no (k.ap e T t H nx) (stB P s ops T t H nx fl):R1).outs=some os:=ho;cases hb:stB P s ops T t H nx fl
  ·rw[hb] at ho;cases ho
  ·rw[hb] at ho;obtain⟨h1,h2⟩:=hk e T t H nx os he ho;exact⟨h1,fun X hm QA hQ hq=>h X QA _ hm.ok (stB_ok hm.p hm.n hf hb) (h2 X hm QA hQ hq)⟩
variable{p:Pr}
def wt_eq(hp:p.af=afM p.o.after.toList)(g:Nat):waits p.o g=bitB p.af g:=by rw[yxb,q0t,hp,q94,r9];simp
variable{kk:Sg→Ck}
def fst_g(hw:s.wf)(hR:okR ops=true)(hf:FlOk ops n ls fl)(hg:Mk lm ls)(hh:Mk fm (js fl))(hp:p∈leftP ops ls)(hb:fstB lm fm p=true)
  (hk:∀ d,KG P n m (AF ops (js fl) fuel (p.j::ls)) (s.push d) (kk (s.push d))):KG P n m (AF ops (js fl) (fuel+1) ls) s (drV P n s ops p kk):=fun e T t H nx os he h=>by
 unfold drV at h;split at h
 ·rename_i d hd;cases ha:Nat.blt d n
  ·rw[ha] at h;cases h
  ·rw[ha] at h;obtain⟨hn,h'⟩:=z50 (v:=(gvC P s ops p.o).ap T t H nx) h;obtain⟨h1,h2⟩:=hk d e _ t H nx os he h';obtain⟨l1,l2,l3,l4⟩:=q3e hp;simp only[fstB,yyc] at hb;obtain⟨b1,b2,b3⟩:=hb;rw[l3] at b1;obtain⟨k1,_⟩:=kd_fst b1;refine⟨h1,fun X hm QA hQ ho=>?_⟩;refine j3f p.j (okR_fs hR l1 l4 hf.two fun e he hj=>?_) l1 hd (by rw[hm.n];exact ha) (gv_semA hm.p k1 rfl hn) (JF.w (z1s (q5u hw (some d) _)) (h2 X hm QA hQ ho));have ht:p.af.testBit e.on=true:=by rw[l2];exact q94.2 ⟨e,he,hj,rfl⟩
   refine⟨(hg _).1 (q4y.1 b2 _ ht),fun hc=>?_⟩;have h0:p.af &&& fm=0:=yyg b3;have:=congrArg (fun z=>z.testBit e.on) h0;simp only[yx3,Nat.zero_testBit,ht,(hh _).2 hc] at this;cases this
 ·cases h
def flt_g(hw:s.wf)(hR:okR ops=true)(hf:FlOk ops n ls fl)(hp:p∈leftP ops ls)(hb:fltB lm p=true)
  (hk:dstB n p.o.dst=true→∀ d,KG P n m (AF ops (p.j::js fl) fuel (p.j::ls)) (s.push d) (kk (s.push d))):KG P n m (AF ops (js fl) (fuel+1) ls) s (drV P n s ops p kk):=fun e T t H nx os he h=>by
 unfold drV at h;split at h
 ·rename_i d hd;cases ha:Nat.blt d n
  ·rw[ha] at h;cases h
  ·rw[ha] at h;obtain⟨hn,h'⟩:=z50 (v:=(gvC P s ops p.o).ap T t H nx) h;obtain⟨h1,h2⟩:=hk (by rw[hd];exact ha) d e _ t H nx os he h';obtain⟨l1,l2,l3,l4⟩:=q3e hp;refine⟨h1,fun X hm QA hQ ho=>?_⟩;refine j3d p.j (okR_ft hR l1 hd l4 hf.two) l1 hd (by rw[hm.n];exact ha) (fun M ρ a w h1 h2=>?_) (JF.w (z1s (q5u hw (some d) _)) (h2 X hm QA hQ ho));obtain⟨e1,z,e2,_⟩:=gv_sem hm.p rfl hn M ρ a w h1 h2;exact⟨e1,z,e2⟩
 ·cases h
def j1u:∀ {cs:List Ck} {l:Outs},brL e T t H nx cs=some l→Cat (fun c:Ck=>(c.ap e T t H nx).outs) cs l
 |[],l,h=>by injection h with h;subst h;exact Cat.nil
 |q::r,l,h=>by
  rw[brL] at h;split at h
  ·rename_i a ha;split at h
   ·rename_i b hb;injection h with h;subst h
    exact Cat.cons ha (j1u hb)
   ·cases h
  ·cases h
def j1v{f:Pr→Ck}:∀ {ps:List Pr},brC f ps=ps.map f
 |[]=>rfl
 |p::r=>by rw[brC,j1v];rfl
def Bn(ops:List Oper)(fl:List Pr)(fuel:Nat)(ls:List Nat)(p:Pr):Ctx→(Exit→S→Prop)→FS→Prop:=fun X QA q=>∃ o fl',ops[p.j]?=some o∧((js fl).filter fun f=>!waits o f)=fl'∧JL X true ops (qN fun s'=>JF X ops (fun s=>QA .normal s) fl' fuel (p.j::ls) s') [o] q.toS
def Bn_all{q:FS}:∀ {ps:List Pr},(∀ p∈ps,Bn ops fl fuel ls p X QA q)→BrF X ops (fun s=>QA .normal s) (js fl) fuel ls q.toS (ps.map (·.j))
 |[],_=>trivial
 |p::r,h=>⟨h p yyh,Bn_all fun x hx=>h x (yyj _ hx)⟩
def drB_g{rs:Bool}{ih:DrT}(hw:s.wf)(hp:p∈leftP ops ls)
  (hk:KG P n m (AF ops (js (fl.filter fun f=>!bitB p.af f.j)) fuel (p.j::ls)) (s.put p.o.dst) (ih (s.put p.o.dst) (Nat.lor lm (bitD p.j)) (noM fm p.af) (fl.filter fun f=>!bitB p.af f.j) (dlP p.j (leftP ops ls)))) :
  KG P n m (Bn ops fl fuel ls p) s (drB P n m rs ops ih s lm fm fl (leftP ops ls) p):=by
 obtain⟨l1,l2,l3,l4⟩:=q3e hp;have hb:(js fl).filter (fun f=>!waits p.o f)=js (fl.filter fun f=>!bitB p.af f.j):=by unfold js;rw[List.filter_map];congr 1;refine List.filter_congr fun f _=>?_;show(!waits p.o f.j)=_;rw[wt_eq l2]
 have ha:KG P n m (AL ops (fun X QA=>qN fun s'=>JF X ops (fun s=>QA .normal s) (js (fl.filter fun f=>!bitB p.af f.j)) fuel (p.j::ls) s') []) (s.put p.o.dst) _:=KG.mono (fun X QA q _ h=>JL.nil h) hk;have go:∀ {c:Ck},KG P n m (AL ops (fun X QA=>qN fun s'=>JF X ops (fun s=>QA .normal s) (js (fl.filter fun f=>!bitB p.af f.j)) fuel (p.j::ls) s') [p.o]) s c→KG P n m (Bn ops fl fuel ls p) s c:=fun h=>KG.mono (fun X QA q _ h=>⟨p.o,_,l1,hb,h⟩) h
 unfold drB;cases rs
 ·exact go (op_g hw ha)
 ·exact go (opD_g hw ha)
def drE_g(hw:s.wf)(hR:okR ops=true)(hf:FlOk ops n ls fl)(ha:Mk lm ls)(he:rdP lm (leftP ops ls)=[]):KG P n m (AF ops (js fl) fuel ls) s (drE P s ops m.out fl):=by
 have hb:ndB ops ls (js fl) []=true:=by have:=okR_nd hR hf.nd;rw[okR_rd hR ha,he] at this;exact this
 exact st_g (B:=fun X QA q=>QA .normal q.toS) (en_g fun X QA q h=>h) hf fun X QA q hX hs h=>j3h hX hb hs h
def dr_g{rs:Bool}(hR:okR ops=true):∀ (fuel:Nat) {s:Sg} {lm fm:Nat} {fl:List Pr} {ls:List Nat},s.wf→Mk lm ls→Mk fm (js fl)→FlOk ops n ls fl →
  KG P n m (AF ops (js fl) fuel ls) s (drC P n m rs ops m.out fuel s lm fm fl (leftP ops ls))
 |0,s,lm,fm,fl,ls,hw,hg,hj,hf=>by
  show KG P n m _ s (drZ P ops m.out s lm fm fl (leftP ops ls));unfold drZ;split
  ·rename_i he;exact drE_g hw hR hf hg he
  ·exact z1y
 |fuel+1,s,lm,fm,fl,ls,hw,hg,hj,hf=>by
  have ih:=@dr_g rs hR fuel;show KG P n m _ s (drN P n m rs ops m.out (drC P n m rs ops m.out fuel) s lm fm fl (leftP ops ls));unfold drN;split
  ·rename_i p hp;obtain⟨p1,p2⟩:=j07 hp;refine fst_g hw hR hf hg hj p1 p2 fun d=>?_;rw[z0y];exact ih (z3n hw d) (hg.cons _) hj (hf.sub fun _ h=>h)
  ·split
   ·rename_i p hp;obtain⟨p1,p2⟩:=j07 hp;refine flt_g hw hR hf p1 p2 fun hd d=>?_;rw[z0y];obtain⟨l1,l2,l3,l4⟩:=q3e p1;simp only[fltB,yyc] at p2;refine ih (fl:=p::fl) (z3n hw d) (hg.cons _) (hj.cons _) fun f hk=>?_;rcases yyk.1 hk with rfl|hk
    ·refine⟨l1,l2,by rw[← l3];exact p2.1,hd,yyh,fun e he hb=>yyj _ ((hg _).1 (q4y.1 p2.2 _ ?_))⟩;rw[l2];exact q94.2 ⟨e,he,hb,rfl⟩
    ·exact(hf.sub (i:=p.j) fun _ h=>h) f hk
   ·have hA:=okR_rd hR hg;have one:∀ p∈leftP ops ls,KG P n m (Bn ops fl fuel ls p) s (drB P n m rs ops (drC P n m rs ops m.out fuel) s lm fm fl (leftP ops ls) p):=fun p hp=>by
     obtain⟨l1,l2,l3,l4⟩:=q3e hp;refine drB_g hw hp ?_;rw[z0y];refine ih (put_wf hw _) (hg.cons _) (fun j=>?_) (hf.sub fun f h=>(yx0.1 h).1);rw[tb_no,yyc,yyv,hj j];unfold js;rw[yy7,yy7];constructor
     ·rintro⟨⟨f,h1,rfl⟩,h2⟩;exact⟨f,yx0.2 ⟨h1,by rw[q0t,h2];rfl⟩,rfl⟩
     ·rintro⟨f,h1,rfl⟩;obtain⟨h2,h3⟩:=yx0.1 h1;refine⟨⟨f,h2,rfl⟩,?_⟩;rw[q0t] at h3;simpa using h3
    have hu:∀ p,p∈rdP lm (leftP ops ls)→p∈leftP ops ls:=fun p hp=>by rw[z82] at hp;exact(yx0.1 hp).1
    have hh:=okR_nd hR hf.nd;rw[hA] at hh;split
    ·rename_i he;exact drE_g hw hR hf hg he
    ·rename_i p he;rw[he] at hh;refine st_g (one p (hu p (by rw[he];exact yyh))) hf fun X QA q hX hs h=>?_;exact q85 p.j [] hX hh hs ⟨h,trivial⟩
    ·rename_i ps hv hB;refine st_g (B:=fun X QA q=>∀ p∈rdP lm (leftP ops ls),Bn ops fl fuel ls p X QA q) ?_ hf fun X QA q hX hs h=>?_
     ·intro e T t H nx os he h;have h:(brF m (brC (drB P n m rs ops (drC P n m rs ops m.out fuel) s lm fm fl (leftP ops ls)) (rdP lm (leftP ops ls))) e T t H nx).outs=some os:=h;unfold brF at h;split at h
      ·rename_i l hl;rw[j1v] at hl;have hc:=j1u hl;have ht:=z3q h;refine⟨ht.1 _ (hc.okF fun c hC a ha=>?_),fun X hm QA hQ ho p hp=>?_⟩
       ·obtain⟨p,hp,rfl⟩:=yy7.1 hC;exact(one p (hu p hp) e T t H nx a he ha).1
       ·obtain⟨a,a1,a2⟩:=hc.okQ (ht.2 X QA hQ ho) (List.mem_map_of_mem hp);exact(one p (hu p hp) e T t H nx a he a1).2 X hm QA hQ a2
      ·cases h
     ·have hb:=Bn_all h;cases hy:rdP lm (leftP ops ls) with
      |nil=>exact(hv hy).elim
      |cons p r=>rw[hy] at hb hh;rw[yy0] at hh hb;exact q85 _ _ hX hh hs hb
def JW.up:JW X (⟨L,H,nx+j⟩:FS).toS (⟨L,H,nx⟩:FS).toS:=fun M ρ a w h1 h2=>⟨ρ,h1.sub (fun _ _ h=>h) (Nat.le_add_right _ _),⟨h2.size,h2.defers,fun d v hd=>⟨j3 (Nat.le_add_right _ _) (h2.reg d v hd).1,(h2.reg d v hd).2⟩⟩⟩
def drA_g(hw:s.wf):KG P n m (AF ops [] ops.length []) s (drA P n m ops m.out s):=by
 unfold drA;cases hR:okR ops
 ·exact z1y
 ·rw[cond_true];have main:∀ rs,KG P n m (AF ops [] ops.length []) s (drC P n m rs ops m.out ops.length s 0 0 [] (rwL ops ops 0)):=fun rs=>by rw[← j0i];exact dr_g (fl:=[]) hR ops.length hw Mk.nil Mk.nil fun f hf=>absurd hf yy9
  show KG P n m _ s (dwC (rsvN ops) (drC P n m (Nat.blt 0 (rsvN ops)) ops m.out ops.length s 0 0 [] (rwL ops ops 0)));unfold dwC;cases Nat.beq (rsvN ops) 0
  ·intro e T t H nx os he h;obtain⟨h1,h2⟩:=main _ ⟨e.dp,e.rd,nx,e.sub⟩ T t H (nx+rsvN ops) os he h;exact⟨h1,fun X hm QA hQ ho=>JF.w JW.up (h2 X hm QA hQ ho)⟩
  ·exact main _
variable {ma:Gm}{g g1 rm out:Nat}{ex:List (Nat×Nat)}{c1 c2:Cl}{c:Code}
def CGJ(P:Program)(n:Nat)(m:Gm)(g:Nat)(J:Ctx→(Exit→S→Prop)→S→Prop)(cl:Cl):Prop:=∀ e t H nx os,EvOk P e→(cl.ap e t H nx).outs=some os →
 OkF H.F os∧∀ X,Mt P n e.dp e.rd X→∀ QA,JWc X QA→OkQ m QA os→J X QA (st g t H nx).toS
variable{J:Ctx→(Exit→S→Prop)→S→Prop}
def z9v:CGJ P n m g J noC:=fun e t H nx os he h=>by cases h
def z4u(h:∀ k,g1.testBit k=true→g.testBit k=true):JW X (st g1 t H nx).toS (st g t H nx).toS:=j2o fun d hn=>by obtain⟨h1,h2,h3⟩:=z1j hn;rw[h3];unfold Rg.get;rw[show Nat.blt d 512=true by simpa using h1];show trg g t d=_;unfold trg;rw[q0t,h d (by rw[← q0t];exact h2)];rfl
def z0v{id j:Nat}{o:Nat}:exM ((id,o)::ex) j=if id=j then o else exM ex j:=by
 unfold exM;rw[m8];by_cases h:id=j
 ·rw[if_pos h,if_pos h]
 ·rw[if_neg h,if_neg h]
def exM_or{id k:Nat}(h:(exM ex id).testBit k=true):(orE ex).testBit k=true:=by
 induction ex with
 |nil=>simp[exM,lk] at h
 |cons p r ih=>
  rw[show p=(p.1,p.2) from rfl,z0v] at h;rw[orE,s9,yyy];split at h
  ·exact .inl h
  ·exact .inr (ih h)
def lv_le:∀ (c:Code) (out out':Nat) (ex ex':List (Nat×Nat)),(∀ k,out.testBit k=true→out'.testBit k=true∨z.testBit k=true)→(∀ id k,(exM ex id).testBit k=true→(exM ex' id).testBit k=true∨z.testBit k=true) →
  (∀ k,(orE ex).testBit k=true→(orE ex').testBit k=true∨z.testBit k=true)→∀ k,(lv rm c out ex).testBit k=true→(lv rm c out' ex').testBit k=true∨z.testBit k=true:=by
 intro c;induction c with
 |skip=>exact fun out out' ex ex' h1 _ _=>h1
 |region id ops dr=>
  intro out out' ex ex' h1 _ _ k h;have h:(Nat.lor (ueM ops.toList ops.toList 0) (noM out (dfM ops.toList))).testBit k=true:=h;show(Nat.lor (ueM ops.toList ops.toList 0) (noM out' (dfM ops.toList))).testBit k=true∨_;rw[s9,yyy] at h ⊢;rcases h with h|h
  ·exact .inl (.inl h)
  ·rw[tb_no,yyc] at h;rcases h1 k h.1 with h2|h2
   ·exact .inl (.inr (by rw[tb_no,h2,h.2];rfl))
   ·exact .inr h2
 |seq a b iha ihb=>exact fun out out' ex ex' h1 h2 h3=>iha _ _ _ _ (ihb _ _ _ _ h1 h2 h3) h2 h3
 |cond x a b iha ihb=>
  intro out out' ex ex' h1 h2 h3 k h;have h:(Nat.lor (bitO x) (Nat.lor (lv rm a out ex) (lv rm b out ex))).testBit k=true:=h;show(Nat.lor (bitO x) (Nat.lor (lv rm a out' ex') (lv rm b out' ex'))).testBit k=true∨_;rw[s9,s9,yyy,yyy] at h ⊢;rcases h with h|h|h
  ·exact .inl (.inl h)
  ·exact(iha _ _ _ _ h1 h2 h3 k h).imp (fun q=>.inr (.inl q)) id
  ·exact(ihb _ _ _ _ h1 h2 h3 k h).imp (fun q=>.inr (.inr q)) id
 |block id b ih=>
  intro out out' ex ex' h1 h2 h3;refine ih _ _ _ _ h1 (fun j k h=>?_) (fun k h=>?_)
  ·rw[z0v] at h ⊢;by_cases e:id=j
   ·rw[if_pos e] at h ⊢;exact h1 k h
   ·rw[if_neg e] at h ⊢;exact h2 j k h
  ·rw[orE,s9,yyy] at h ⊢;rcases h with h|h
   ·exact(h1 k h).imp .inl fun q=>q
   ·exact(h3 k h).imp .inr fun q=>q
 |loop b ih=>exact fun out out' ex ex' _ h2 h3=>ih 0 0 ex ex' (fun k h=>.inl h) h2 h3
 |rangeFunc x ps a b iha ihb=>
  intro out out' ex ex' h1 h2 h3 k h;have h:(Nat.lor (bitO x) (Nat.lor out (Nat.lor rm (Nat.lor (orE ex) (lv rm a (lv rm b 0 []) []))))).testBit k=true:=h;show(Nat.lor (bitO x) (Nat.lor out' (Nat.lor rm (Nat.lor (orE ex') (lv rm a (lv rm b 0 []) []))))).testBit k=true∨_;simp only[s9,yyy] at h ⊢;rcases h with h|h|h|h|h
  ·exact .inl (.inl h)
  ·exact(h1 k h).imp (fun q=>.inr (.inl q)) id
  ·exact .inl (.inr (.inr (.inl h)))
  ·exact(h3 k h).imp (fun q=>.inr (.inr (.inr (.inl q)))) id
  ·exact .inl (.inr (.inr (.inr (.inr h))))
 |exit id=>exact fun out out' ex ex' _ h2 _=>h2 id
 |scope b ih=>exact fun out out' ex ex' h1 h2 h3=>ih _ _ _ _ h1 h2 h3
 |label l=>exact fun out out' ex ex' h1 _ _=>h1
 |goto l=>exact fun out out' ex ex' _ _ _ k h=>.inl h
 |ret=>exact fun out out' ex ex' _ _ _ k h=>.inl h
 |_=>exact fun out out' ex ex' _ _ _ k h=>.inl h
def lv_fix{b:Code}{k:Nat}(h:(lv rm b (lv rm b 0 ex) ex).testBit k=true):(lv rm b 0 ex).testBit k=true:=(lv_le (rm:=rm) (z:=lv rm b 0 ex) b _ 0 ex ex (fun k h=>.inr h) (fun _ _ h=>.inl h) (fun _ h=>.inl h) k h).elim id id
def rsE_ok:∃ H' n',rsE g n0 t H nx=⟨tL t,H',n'⟩∧H'.F=H.F∧∀ X,JW X (st g t H' n').toS (st g t H nx).toS:=by
 have e:rsE g n0 t H nx=@Bool.rec (fun _=>FS) ⟨tL t,H,nx⟩ ⟨tL t,⟨(cut3 n0).out H.t,H.F⟩,n0⟩ (rsB n0 .u ⟨g,0,[],.e,t⟩ H.F ((cut3 n0).out H.t)):=rfl;rw[e];cases hb:rsB n0 .u ⟨g,0,[],.e,t⟩ H.F ((cut3 n0).out H.t)
 ·exact⟨H,nx,rfl,rfl,fun X=>JW.refl _⟩
 ·exact⟨_,n0,rfl,rfl,fun X=>JW.rs (d:=none) (v:=.u) (L:=⟨g,0,[],.e,t⟩) (fun e _=>.inr ⟨by simp,rfl⟩) hb⟩
def kNm_ok(h:(kNm t H nx m g n0 c2 e).outs=some os):∃ t' H' n',(c2.ap e t' H' n').outs=some os∧H'.F=H.F∧∀ X,JW X (st g t' H' n').toS (st g t H nx).toS:=by
 have h:(@Bool.rec (fun _=>R1) (c2.ap e t H nx) (gbF g n0 c2 e (prT g t) H nx) (Nat.blt (Nat.add n0 24) nx):R1).outs=some os:=h;cases hb:Nat.blt (Nat.add n0 24) nx
 ·rw[hb] at h;exact⟨t,H,nx,h,rfl,fun X=>JW.refl _⟩
 ·rw[hb] at h;have h:(gbQ c2 e (rsE g n0 (prT g t) H nx)).outs=some os:=h;obtain⟨H',n',e1,e2,e3⟩:=rsE_ok (g:=g) (n0:=n0) (t:=prT g t) (H:=H) (nx:=nx);rw[e1] at h;exact⟨prT g t,H',n',h,e2,fun X=>(e3 X).trans (prR_w (L:=⟨g,0,[],.e,t⟩))⟩
def CatR(R:α→Outs→Prop)(os:List α)(l:Outs):Prop:=(∀ q∈os,∃ a,R q a∧∀ x∈a,x∈l)∧∀ x∈l,∃ q∈os,∃ a,R q a∧x∈a
def CatR.nil{R:α→Outs→Prop}:CatR R [] []:=⟨fun _ h=>absurd h yy9,fun _ h=>absurd h yy9⟩
def CatR.cons{R:α→Outs→Prop}{q:α}{os:List α}(h:R q a)(k:CatR R os b):CatR R (q::os) (a++b):=by
 refine⟨fun x hx=>?_,fun x hx=>?_⟩
 ·rcases yyk.1 hx with rfl|hx
  ·exact⟨a,h,fun x hx=>yxy _ hx⟩
  ·obtain⟨c,e1,e2⟩:=k.1 x hx;exact⟨c,e1,fun y hy=>List.mem_append_right _ (e2 y hy)⟩
 ·rcases yxd.1 hx with hx|hx
  ·exact⟨q,yyh,a,h,hx⟩
  ·obtain⟨p,e1,e2⟩:=k.2 x hx;exact⟨p,yyj _ e1,e2⟩
def CatR.one{R:α→Outs→Prop}{q:α}(h:R q a):CatR R [q] a:=by have:=CatR.cons h CatR.nil;rw[yxj] at this;exact this
def sqR(g:Nat)(c2:Cl)(e:Ev)(q:Ex×FS)(a:Outs):Prop:=
 match q.1 with
 |.nm=>∃ t' H' n',(c2.ap e t' H' n').outs=some a∧H'.F=q.2.H.F∧∀ X,JW X (st g t' H' n').toS (st g q.2.L.t q.2.H q.2.nx).toS
 |x=>a=[(x,q.2)]
def q8c:∀ {os l:Outs},mnL c2 e os=some l→CatR (sqR g c2 e) os l
 |[],l,h=>by injection h with h;subst h;exact CatR.nil
 |(x,q)::r,l,h=>by
  rw[mnL] at h;cases x with
  |nm=>
   simp only at h;split at h
   ·rename_i a ha;split at h
    ·rename_i b hb;injection h with h;subst h
     exact CatR.cons (q:=(.nm,q)) ⟨_,_,_,ha,rfl,fun X=>JW.refl _⟩ (q8c hb)
    ·cases h
   ·cases h
  |ex id=>
   simp only at h;split at h
   ·rename_i b hb;injection h with h;subst h
    exact CatR.cons (q:=(.ex id,q)) (a:=[(.ex id,q)]) rfl (q8c hb)
   ·cases h
  |rt=>
   simp only at h;split at h
   ·rename_i b hb;injection h with h;subst h
    exact CatR.cons (q:=(.rt,q)) (a:=[(.rt,q)]) rfl (q8c hb)
   ·cases h
def sqF_ok(h:(sqF m g c1 c2 e t H nx).outs=some os):∃ os1 l,(c1.ap e t H nx).outs=some os1∧CatR (sqR g c2 e) os1 l∧Thin m os l:=by
 unfold sqF at h;cases hr:c1.ap e t H nx with
 |no=>rw[hr] at h;cases h
 |nm t1 H1 n1=>rw[hr] at h;obtain⟨t',H',n',h1,h2,h3⟩:=kNm_ok (m:=m) (n0:=nx) h;exact⟨_,os,rfl,CatR.one (q:=((Ex.nm,⟨tL t1,H1,n1⟩):Ex×FS)) ⟨t',H',n',h1,h2,h3⟩,Thin.refl _⟩
 |ex id t1 H1 n1=>
  rw[hr] at h;have h:some [((Ex.ex id,⟨tL t1,H1,n1⟩):Ex×FS)]=some os:=h;injection h with h;subst h
  exact⟨_,_,rfl,CatR.one (q:=((Ex.ex id,⟨tL t1,H1,n1⟩):Ex×FS)) rfl,Thin.refl _⟩
 |rt t1 H1 n1=>
  rw[hr] at h;have h:some [((Ex.rt,⟨tL t1,H1,n1⟩):Ex×FS)]=some os:=h;injection h with h;subst h
  exact⟨_,_,rfl,CatR.one (q:=((Ex.rt,⟨tL t1,H1,n1⟩):Ex×FS)) rfl,Thin.refl _⟩
 |mn os1=>
  rw[hr] at h;have h:(mnS m c2 e os1).outs=some os:=h;unfold mnS at h;split at h
  ·rename_i l hl;cases hb:noNm os1
   ·rw[hb] at h;exact⟨os1,l,rfl,q8c hl,z3q h⟩
   ·rw[hb] at h;injection h with h;subst h
    exact⟨os1,l,rfl,q8c hl,Thin.refl _⟩
  ·cases h
def sq_g{J1 J2 J:Ctx→(Exit→S→Prop)→S→Prop}(h1:CGJ P n ma g1 J1 c1)(h2:CGJ P n m g J2 c2)(hn:ma.of .nm=g)(hr:ma.of .rt=m.of .rt)(hx:∀ id,ma.of (.ex id)=m.of (.ex id))
  (hw:∀ X QA s s',JWc X QA→JW X s s'→J2 X QA s→J2 X QA s') (hJ:∀ X QA s,J1 X (qThen (J2 X QA) QA) s→J X QA s):CGJ P n m g1 J (sq m g c1 c2):=fun e t H nx os he h=>by
 obtain⟨os1,l,k1,k2,k3⟩:=sqF_ok h;obtain⟨f1,f2⟩:=h1 e t H nx os1 he k1;refine⟨k3.1 _ fun x hk=>?_,fun X hm QA hQ ho=>hJ X QA _ (f2 X hm _ ?_ fun q hq=>?_)⟩
 ·obtain⟨q,hq,a,ha,hb⟩:=k2.2 x hk;have hd:=f1 q hq;obtain⟨y,q⟩:=q;cases y with
  |nm=>obtain⟨t',H',n',r1,r2,_⟩:=ha;have:=(h2 e t' H' n' a he r1).1;rw[r2] at this;exact(this x hb).trans hd
  |ex id=>have ha:a=[(Ex.ex id,q)]:=ha;subst ha;rw[yyp.1 hb];exact hd
  |rt=>have ha:a=[(Ex.rt,q)]:=ha;subst ha;rw[yyp.1 hb];exact hd
 ·intro y s s' hj hq;cases y with
  |normal=>exact hw X QA s s' hQ hj hq
  |_=>exact hQ _ _ _ hj hq
 ·have hg:=k3.2 X QA hQ ho;obtain⟨a,ha,hh⟩:=k2.1 q hq;obtain⟨y,q⟩:=q;cases y with
  |nm=>obtain⟨t',H',n',r1,r2,r3⟩:=ha;have:=(h2 e t' H' n' a he r1).2 X hm QA hQ fun x hx=>hg x (hh x hx);show J2 X QA (st (ma.of .nm) q.L.t q.H q.nx).toS;rw[hn];exact hw X QA _ _ hQ (r3 X) this
  |ex id=>have ha:a=[(Ex.ex id,q)]:=ha;subst ha;have:=hg _ (hh _ yyh);show QA (.exit id) (st (ma.of (.ex id)) q.L.t q.H q.nx).toS;rw[hx];exact this
  |rt=>have ha:a=[(Ex.rt,q)]:=ha;subst ha;have:=hg _ (hh _ yyh);show QA .ret (st (ma.of .rt) q.L.t q.H q.nx).toS;rw[hr];exact this
def JI(X:Ctx)(c:Code)(QA:Exit→S→Prop)(R:S→Prop):Nat→S→Prop
 |0,s=>R s
 |k+1,s=>JC X c (qThen (JI X c QA R k) QA) s
def JI_w{R:S→Prop}(hR:∀ s s',JW X s s'→R s→R s'){s s':S}(hw:JW X s s'):∀ {k:Nat},JI X c QA R k s→JI X c QA R k s'
 |0,h=>hR _ _ hw h
 |k+1,h=>q0g hw h
def z4n{R R':S→Prop}{Q1:Exit→S→Prop}(hR:∀ s,R s→R' s)(hq:∀ e s,e≠.normal→Q1 e s→QA e s):∀ {k:Nat} {s:S},JI X c Q1 R k s→JI X c QA R' k s
 |0,s,h=>hR s h
 |k+1,s,h=>JC.mono h fun e s' h'=>by
  cases e with
  |normal=>exact z4n hR hq h'
  |_=>exact hq _ _ (by simp) h'
def JI_add{R:S→Prop}{Q1:Exit→S→Prop}{j:Nat}(hq:∀ e s,e≠.normal→Q1 e s→QA e s):∀ {k:Nat} {s:S},JI X c Q1 (JI X c QA R j) k s→JI X c QA R (k+j) s
 |0,s,h=>by rw[yxt];exact h
 |k+1,s,h=>by
  rw[show k+1+j=(k+j)+1 by omega];exact JC.mono h fun e s' h'=>by
   cases e with
   |normal=>exact JI_add hq h'
   |_=>exact hq _ _ (by simp) h'
def z22:∀ {k:Nat} {s:S},JI X c QA (fun _=>False) k s→∀ M ρ a w,SAT X M ρ s w→REG X M ρ s a→Code.roundsIn X.fn 0 X.P c (conc X QA) k a w
 |0,s,h,_,_,_,_,_,_=>h
 |k+1,s,h,M,ρ,a,w,h1,h2=>by
  refine wpIn_mono (h M ρ a w h1 h2) ?_;rintro e a' w' ⟨M',ρ',s',k1,k2,k3⟩;cases e with
  |normal=>exact z22 k3 M' ρ' a' w' k1 k2
  |_=>exact⟨M',ρ',s',k1,k2,k3⟩
def JI_loop{k:Nat}{s:S}(h:JI X c QA (fun _=>False) k s):JC X (.loop c) QA s:=fun M ρ a w h1 h2=>wpIn_loop_rounds k (z22 h M ρ a w h1 h2)
def z64(e:Exit)(s:S)(h:QA e s):qThen (QA .normal) QA e s:=by cases e<;>exact h
def dbl_g{cl:Cl}(hm:ma.of=m.of)(hg:m.of .nm=g)(h:CGJ P n ma g (fun X QA s=>JC X c QA s) cl):∀ k,CGJ P n m g (fun X QA s=>JI X c QA (QA .normal) (2 ^ k) s) (dbl m cl k)
 |0=>fun e t H nx os he ho=>by
  obtain⟨h1,h2⟩:=h e t H nx os he ho;refine⟨h1,fun X ha QA hQ hq=>?_⟩;have hb:OkQ ma QA os:=fun o ho=>by have:=hq o ho;unfold Gm.fs at this ⊢;rw[hm];exact this
  exact JC.mono (h2 X ha QA hQ hb) z64
 |k+1=>by have ih:=dbl_g hm hg h k;have hge:m.out=g:=hg;show CGJ P n m g _ (sq m m.out (dbl m cl k) (dbl m cl k));rw[hge];refine sq_g ih ih hg rfl (fun _=>rfl) (fun X QA s s' hQ hw h=>JI_w (fun s s' hw h=>hQ _ _ _ hw h) hw h) fun X QA s h=>?_;rw[show 2 ^ (k+1)=2 ^ k+2 ^ k by omega];exact JI_add (Q1:=qThen (JI X c QA (QA .normal) (2 ^ k)) QA) (fun e s he h=>by cases e<;>first|exact h|exact(he rfl).elim) h
def lp_g{cl:Cl}{m':Gm}(hm:ma.of=m.of)(hg:m.of .nm=g)(hr:m.of .rt=m'.of .rt)(hx:∀ id,m.of (.ex id)=m'.of (.ex id))(h:CGJ P n ma g (fun X QA s=>JC X c QA s) cl):CGJ P n m' g (fun X QA s=>JC X (.loop c) QA s) (lpC m cl):=fun e t H nx os he ho=>by
 have hge:m.out=g:=hg;have key:CGJ P n m g (fun X QA s=>JI X c QA (fun _=>False) (2 ^ 14) s) (lpC m cl):=by unfold lpC;rw[hge];refine sq_g (J2:=fun _ _ _=>False) (dbl_g hm hg h 14) z9v hg rfl (fun _=>rfl) (fun _ _ _ _ _ _ h=>h) fun X QA s h=>?_;exact z4n (Q1:=qThen (fun _=>False) QA) (fun s h=>h) (fun e s he h=>by cases e<;>first|exact h|exact(he rfl).elim) h
 obtain⟨h1,h2⟩:=key e t H nx os he ho;refine⟨h1,fun X hM QA hQ hq=>JI_loop (k:=2 ^ 14) ?_⟩;refine z4n (Q1:=qThen (fun _=>True) QA) (fun s h=>h) (fun e s he h=>by cases e<;>first|exact h|exact(he rfl).elim) (h2 X hM _ (fun e s s' hw h=>?_) fun o ha=>?_)
 ·cases e with
  |normal=>exact trivial
  |_=>exact hQ _ _ _ hw h
 ·have:=hq o ha;obtain⟨y,q⟩:=o;cases y with
  |nm=>exact trivial
  |ex id=>show QA (.exit id) (st (m.of (.ex id)) q.L.t q.H q.nx).toS;rw[hx];exact this
  |rt=>show QA .ret (st (m.of .rt) q.L.t q.H q.nx).toS;rw[hr];exact this
def bl1(id:Nat)(p:Ex×FS):Ex×FS:=
 match p.1 with
 |.ex j=>bif Nat.beq j id then(.nm,p.2) else(.ex j,p.2)
 |e=>(e,p.2)
def j1z{id:Nat}:∀ {os:Outs},blO id os=os.map (bl1 id)
 |[]=>rfl
 |(x,q)::r=>by rw[blO,j1z];cases x<;>rfl
def blF_ok{id:Nat}(h:(blF m id c1 e t H nx).outs=some os):∃ os1,(c1.ap e t H nx).outs=some os1∧Thin m os (os1.map (bl1 id)):=by
 unfold blF at h;cases hr:c1.ap e t H nx with
 |no=>rw[hr] at h;cases h
 |nm t1 H1 n1=>rw[hr] at h;injection h with h;subst h;exact⟨_,rfl,Thin.refl _⟩
 |ex j t1 H1 n1=>
  rw[hr] at h;have h:(@Bool.rec (fun _=>R1) (.ex j t1 H1 n1) (.nm t1 H1 n1) (Nat.beq j id):R1).outs=some os:=h;refine⟨_,rfl,?_⟩;show Thin m os [bl1 id ((Ex.ex j,⟨tL t1,H1,n1⟩):Ex×FS)];unfold bl1;simp only;cases hb:Nat.beq j id
  ·rw[hb] at h;injection h with h;subst h;exact Thin.refl _
  ·rw[hb] at h;injection h with h;subst h;exact Thin.refl _
 |rt t1 H1 n1=>rw[hr] at h;injection h with h;subst h;exact⟨_,rfl,Thin.refl _⟩
 |mn os1=>rw[hr] at h;refine⟨os1,rfl,?_⟩;rw[← j1z];exact z3q h
def bl_g{id:Nat}{kb:Bool}(h:CGJ P n ⟨rm,out,(id,out)::ex,kb⟩ g (fun X QA s=>JC X c QA s) c1):CGJ P n ⟨rm,out,ex,kb⟩ g (fun X QA s=>JC X (.block id c) QA s) (.mk (blF ⟨rm,out,ex,kb⟩ id c1)):=fun e t H nx os he ho=>by
 obtain⟨os1,k1,k2⟩:=blF_ok ho;obtain⟨h1,h2⟩:=h e t H nx os1 he k1;refine⟨k2.1 _ fun x hx=>?_,fun X hm QA hQ hq=>JC.block (h2 X hm (qBlock id QA) (fun y s s' hw hy=>?_) fun o ha=>?_)⟩
 ·obtain⟨q,hq,rfl⟩:=yy7.1 hx;rw[← h1 q hq];obtain⟨y,q⟩:=q;cases y with
  |ex j=>unfold bl1;simp only;cases Nat.beq j id<;>rfl
  |nm=>rfl
  |rt=>rfl
 ·cases y with
  |exit j=>
   simp only[qBlock] at hy ⊢;by_cases e:j=id
   ·rw[if_pos e] at hy ⊢;exact hQ _ _ _ hw hy
   ·rw[if_neg e] at hy ⊢;exact hQ _ _ _ hw hy
  |_=>exact hQ _ _ _ hw hy
 ·have:=k2.2 X QA hQ hq _ (List.mem_map_of_mem ha);obtain⟨y,q⟩:=o;cases y with
  |nm=>exact this
  |rt=>exact this
  |ex j=>
   show qBlock id QA (.exit j) (st (exM ((id,out)::ex) j) q.L.t q.H q.nx).toS;unfold bl1 at this;simp only at this;rw[z0v];simp only[qBlock];by_cases e:j=id
   ·subst e;rw[if_pos rfl,if_pos rfl];rw[show Nat.beq j j=true from Nat.beq_refl j] at this;exact this
   ·rw[if_neg e,if_neg (Ne.symm e)];rw[show Nat.beq j id=false from by
     cases hb:Nat.beq j id
     ·rfl
     ·exact(e (yyg hb)).elim] at this
    exact this
def wf_s0(g:Nat):(Sg.mk g 0 []).wf:=wf0 g
def rnK_ok{g0 n0:Nat}{q:FS}{p:Ex×FS}{kb:Bool}(hj:nfB ⟨g,0,[]⟩ n=true)(hF:q.H.F=(Nat.succ n0,((Sg.mk g 0 []).ali n (.c (.y n0))).L .e t)::F)
  (hg:∀ x k,((Gm.mk rm out ex kb).of x).testBit k=true→g.testBit k=true) {dp:Nat} (h:rnK P dp g n0 F g0 rs t q=some p):p.2.H.F=F∧∀ X,X.P=P→X.n=n→X.dp=dp→∀ QA,JWc X QA→QA p.1.to ((Gm.mk rm out ex kb).fs p).toS→∀ y,(y=.ret∨y=.normal) →
   rngR X rs QA y (st g0 q.L.t q.H q.nx).toS:=by
 unfold rnK at h;cases hb:bAnd (popB q.H (Nat.succ n0) F dp) (Bool.not (hasF n0 F))
 ·rw[hb] at h;cases h
 ·rw[hb,cond_true] at h;obtain⟨b1,b2⟩:=v5.1 hb;have b2:hasF n0 F=false:=by
   cases hh:hasF n0 F
   ·rfl
   ·rw[hh] at b2;cases b2
  split at h
  ·rename_i st0 pe ps az bd n1 LO hk;cases hc:!(st0==.busy)&&(rsR P ⟨((Sg.mk g0 0 []).sm (rsT rs)).ap .e q.L.t,q.H,0⟩ rs).isSome
   ·rw[hc] at h;cases h
   ·rw[hc,cond_true] at h;simp only[yyc,yyv] at hc;obtain⟨c1,c2⟩:=hc;obtain⟨p1,p2,p3⟩:=z87 hF b1;obtain⟨_,y2,y3⟩:=z75 (T:=.e) (t:=t) (lab:=n0) (wf_s0 g) hj;obtain⟨H',n',r1,r2,r3⟩:=rsE_ok (g:=g) (n0:=n0) (t:=t) (H:=delR ⟨q.H.t,F⟩ n0) (nx:=q.nx);have hu:(delR ⟨q.H.t,F⟩ n0).F=F:=by rw[delR_F];show fltF n0 F=F;unfold fltF;rw[b2]
    cases ha:rsR P ⟨((Sg.mk g0 0 []).sm (rsT rs)).ap .e q.L.t,q.H,0⟩ rs with
    |none=>rw[ha] at c2;cases c2
    |some r=>
     rw[z8u (b:=q.nx)] at ha;have hJ:∀ X,JW X (st g t H' n').toS ⟨del (mapT (((Sg.mk g 0 []).ali n (.c (.y n0))).L .e t)) n,del (del (mapH q.H) (Nat.succ n0)) n0,q.nx⟩:=fun X=>(r3 X).trans (q23 (s:=⟨_,_,q.nx⟩) y3 fun l x hx=>by obtain⟨d1,d2⟩:=j1o hx;refine⟨x,?_,HSub.refl _⟩;show lk (del (del (mapH q.H) (Nat.succ n0)) n0) l=_;rw[q5z,if_neg d1];exact p3 _ _ d2)
     have fin:∀ y0:Ex,p=(y0,rsE g n0 t (delR ⟨q.H.t,F⟩ n0) q.nx)→pe=jmpO y0→p.2.H.F=F∧∀ X,X.P=P→X.n=n→X.dp=dp→∀ QA,JWc X QA→QA p.1.to ((Gm.mk rm out ex kb).fs p).toS→∀ y,(y=.ret∨y=.normal) →
       rngR X rs QA y (st g0 q.L.t q.H q.nx).toS:=fun y0 hp hv=>by
      rw[r1] at hp;subst hp;refine⟨r2.trans hu,fun X hP hn he QA hQ hq y hy=>?_⟩;have hd:QA y0.to (st g t H' n').toS:=hQ _ _ _ (z4u (hg y0)) hq;refine⟨hy,Nat.succ n0,_,n0,st0,pe,ps,az,bd,n1,mapT LO,.raw (vlR r),by rw[hP];exact ResOk.sub (q0c _) (z3l ha),by rw[he];exact p1,by rw[hn];exact y2,lkH hk,c1,by rw[he];exact q1z p2,?_⟩;rw[hv,hn];cases y0 with
      |nm=>exact hQ _ _ _ (hJ X) hd
      |ex id=>exact hQ _ _ _ (hJ X) hd
      |rt=>exact hQ _ _ _ (hJ X) hd
     split at h
     ·injection h with h;exact fin .nm h.symm rfl
     ·injection h with h;exact fin .rt h.symm rfl
     ·rename_i id;injection h with h;exact fin (.ex id) h.symm rfl
     ·cases h
  ·cases h
def rnH(P:Program)(dp g n0:Nat)(F:List (Nat×Rg))(rm:Nat)(rs:List ResultVar)(t:T2)(q:Ex×FS):Option Outs:=
 match q.1 with
 |.ex _=>none
 |_=>(match rnK P dp g n0 F rm rs t q.2 with
  |some a=>some [a]
  |none=>none)
def z8v{dp n0 g0:Nat}{F:List (Nat×Rg)}{rs:List ResultVar}:∀ {os l:Outs},rnL P dp g n0 F g0 rs t os=some l→Cat (rnH P dp g n0 F g0 rs t) os l
 |[],l,h=>by injection h with h;subst h;exact Cat.nil
 |(x,q)::r,l,h=>by
  rw[rnL] at h;have key:∀ {x:Ex},(match rnK P dp g n0 F g0 rs t q with
   |some a=>(match rnL P dp g n0 F g0 rs t r with
    |some b=>some (a::b)
    |none=>none)
   |none=>none)=some l→rnH P dp g n0 F g0 rs t (x,q)=(match rnK P dp g n0 F g0 rs t q with
  |some a=>some [a]
  |none=>none)→Cat (rnH P dp g n0 F g0 rs t) ((x,q)::r) l:=fun h hq=>by
   split at h
   ·rename_i a ha;split at h
    ·rename_i b hb;injection h with h;subst h
     rw[ha] at hq;exact Cat.cons (a:=[a]) hq (z8v hb)
    ·cases h
   ·cases h
  cases x with
  |ex id=>cases h
  |nm=>exact key h rfl
  |rt=>exact key h rfl
def rnH_ok{g0 n0:Nat}{kb:Bool}(hd:nfB ⟨g,0,[]⟩ n=true)(hF:q.2.H.F=(Nat.succ n0,((Sg.mk g 0 []).ali n (.c (.y n0))).L .e t)::F)
  (hg:∀ x k,((Gm.mk rm out ex kb).of x).testBit k=true→g.testBit k=true) {dp:Nat} (h:rnH P dp g n0 F g0 rs t q=some os):OkF F os∧∀ X,X.P=P→X.n=n→X.dp=dp→∀ QA,JWc X QA→OkQ (Gm.mk rm out ex kb) QA os →
   rngR X rs QA q.1.to ((Gm.mk g0 g0 [] false).fs q).toS:=by
 have key:∀ {q:FS} (hF:q.H.F=(Nat.succ n0,((Sg.mk g 0 []).ali n (.c (.y n0))).L .e t)::F),(match rnK P dp g n0 F g0 rs t q with
  |some a=>some [a]
  |none=>none)=some os→OkF F os∧∀ X,X.P=P→X.n=n→X.dp=dp→∀ QA,JWc X QA→OkQ (Gm.mk rm out ex kb) QA os→∀ y,(y=.ret∨y=.normal)→rngR X rs QA y (st g0 q.L.t q.H q.nx).toS:=fun hF h=>by
  split at h
  ·rename_i a ha;injection h with h;subst h
   obtain⟨h1,h2⟩:=rnK_ok hd hF hg ha;exact⟨fun o ho=>by rw[yyp.1 ho];exact h1,fun X hP hn hb QA hQ ho y hy=>h2 X hP hn hb QA hQ (ho a yyh) y hy⟩
  ·cases h
 obtain⟨x,q⟩:=q;cases x with
 |ex id=>cases h
 |nm=>obtain⟨h1,h2⟩:=key hF h;exact⟨h1,fun X hP hn hb QA hQ ho=>h2 X hP hn hb QA hQ ho _ (.inr rfl)⟩
 |rt=>obtain⟨h1,h2⟩:=key hF h;exact⟨h1,fun X hP hn hb QA hQ ho=>h2 X hP hn hb QA hQ ho _ (.inl rfl)⟩
def rn_g{ps:Array Tmp}{assign body:Code}{kb:Bool}(hd:nfB ⟨g,0,[]⟩ n=true)(hg:∀ x k,((Gm.mk rm out ex kb).of x).testBit k=true→g.testBit k=true) :
  CGJ P n ⟨rm,out,ex,kb⟩ g (fun X QA s=>JC X (.rangeFunc x ps assign body) QA s) (.mk (rnF P ⟨rm,out,ex,kb⟩ g n ((Sg.mk g 0 []).op x) ps assign body)):=fun e t H nx os he h=>by
 have h:(rnF P ⟨rm,out,ex,kb⟩ g n ((Sg.mk g 0 []).op x) ps assign body e t H nx).outs=some os:=h;unfold rnF at h;split at h
 ·rename_i f cap hx;split at h
  ·rename_i fn cd hE;unfold rnG at h;cases hb:Nat.ble (cap.len+1) fn.ntmps&&rdC H e.rd&&Nat.blt nx 1024&&puB (updR H nx (.loop .ready none ps assign body n ⟨g,0,[],.e,t⟩)) (Nat.succ nx) e.dp
   ·rw[hb] at h;cases h
   ·rw[hb,cond_true] at h;simp only[yyc] at hb;obtain⟨⟨⟨b1,b2⟩,b3⟩,b4⟩:=hb;split at h
    ·rename_i os1 r1;split at h
     ·rename_i l hl;have hc:=z8v hl;have ht:=z3q h;obtain⟨g1,g2⟩:=he _ _ _ _ _ _ _ _ _ r1;have hF:∀ q∈os1,q.2.H.F=(Nat.succ nx,((Sg.mk g 0 []).ali n (.c (.y nx))).L .e t)::H.F:=fun q hq=>by have:=g1 q hq;rw[show(pushF (updR H nx (.loop .ready none ps assign body n ⟨g,0,[],.e,t⟩)) (Nat.succ nx) ⟨g,0,[(n,.c (.y nx))],.e,t⟩).F=(Nat.succ nx,⟨g,0,[(n,.c (.y nx))],.e,t⟩)::(updR H nx (.loop .ready none ps assign body n ⟨g,0,[],.e,t⟩)).F from rfl,q74] at this;exact this
      refine⟨ht.1 _ (hc.okF fun q hq a ha=>(rnH_ok hd (hF q hq) hg ha).1),fun X hm QA hQ ho=>?_⟩;have hh:=q17 (s:=Sg.mk g 0 []) (T:=.e) (t:=t) (l:=[x]) yyh hx rfl;obtain⟨y1,_,_⟩:=z75 (T:=.e) (t:=t) (lab:=nx) (wf_s0 g) hd;refine j3m (L:=⟨g,0,[],.e,t⟩) (Lt:=⟨g,0,[],.e,t⟩) (q0c (s:=Sg.mk g 0 []) (T:=.e) (t:=t) [x]) (SubT.refl _) hm.rd b2 hh (by rw[hm.p];exact hE) (yyd b1) (by simpa using b3) (by rw[hm.dp,hm.n];exact b4)
       (L0:=⟨lv (rsM fn.results.toList) cd (rsM fn.results.toList) [],0,[],.e,agP (lv (rsM fn.results.toList) cd (rsM fn.results.toList) []) (.cons (.y nx) cap) 0 .e⟩) arg_ok (Lf:=((Sg.mk g 0 []).ali n (.c (.y nx))).L .e t) (by rw[hm.n];exact y1) fun M0 up=>?_
      have hj:Mt P fn.ntmps (e.dp+1) none (X.sub M0 fn.ntmps none up):=⟨hm.p,XOK.sub hm.ok,rfl,by show X.dp+1=e.dp+1;rw[hm.dp],rfl⟩;rw[hm.n];refine JC.cl (g2 _ hj _ q2i fun q hq=>z7i ?_);obtain⟨a,a1,a2⟩:=hc.okQ (ht.2 X QA hQ ho) hq;exact(rnH_ok hd (hF q hq) hg a1).2 X hm.p hm.n hm.dp QA hQ a2
     ·cases h
    ·cases h
  ·cases h
 ·cases h
def or_l{a b k:Nat}(h:a.testBit k=true):(Nat.lor a b).testBit k=true:=by rw[s9,h];rfl
def or_r{a b k:Nat}(h:b.testBit k=true):(Nat.lor a b).testBit k=true:=by rw[s9,h,Bool.or_true]
def cd_g{a b:Code}{ca cb:Cl}{ga gb:Nat}(ha:CGJ P n m ga (fun X QA s=>JC X a QA s) ca)(hb:CGJ P n m gb (fun X QA s=>JC X b QA s) cb)(h1:∀ k,ga.testBit k=true→g.testBit k=true)(h2:∀ k,gb.testBit k=true→g.testBit k=true) :
  CGJ P n m g (fun X QA s=>JC X (.cond x a b) QA s) (.mk (cdF ((Sg.mk g 0 []).op x) ca cb)):=fun e t H nx os he h=>by
 have h:(cdV (((Sg.mk g 0 []).op x).ap .e t) ca cb e t H nx).outs=some os:=h;cases hx:((Sg.mk g 0 []).op x).ap .e t<;>rw[hx] at h<;>first|(cases h;done)|skip
 rename_i q;have hd:=q17 (s:=Sg.mk g 0 []) (T:=.e) (t:=t) (l:=[x]) yyh hx rfl;have hs:=q0c (s:=Sg.mk g 0 []) (T:=.e) (t:=t) [x];have h:(@Bool.rec (fun _=>R1) (cb.ap e t H nx) (ca.ap e t H nx) q:R1).outs=some os:=h;cases q
 ·obtain⟨k1,k2⟩:=hb e t H nx os he h;exact⟨k1,fun X hm QA hQ ho=>JC.fc (L:=⟨g,0,[],.e,t⟩) hs hd (q0g (z4u h2) (k2 X hm QA hQ ho))⟩
 ·obtain⟨k1,k2⟩:=ha e t H nx os he h;exact⟨k1,fun X hm QA hQ ho=>JC.fc (L:=⟨g,0,[],.e,t⟩) hs hd (q0g (z4u h1) (k2 X hm QA hQ ho))⟩
def j1r{kb:Bool}:∀ (c:Code) (out:Nat) (ex:List (Nat×Nat)),CGJ P n ⟨rm,out,ex,kb⟩ (lv rm c out ex) (fun X QA s=>JC X c QA s) (comp P n rm kb c out ex):=by
 intro c;have idc:∀ {c:Code} {out:Nat} {ex:List (Nat×Nat)},(∀ X QA s,QA .normal s→JC X c QA s)→CGJ P n ⟨rm,out,ex,kb⟩ out (fun X QA s=>JC X c QA s) idC:=fun hc e t H nx os he h=>by
  injection h with h;subst h
  exact⟨fun o ho=>by rw[yyp.1 ho],fun X hm QA hQ ho=>hc X QA _ (ho _ yyh)⟩
 induction c with
 |skip=>exact fun out ex=>idc fun X QA s h=>JC.skip h
 |region id ops dr=>
  intro out ex;show CGJ P n ⟨rm,out,ex,kb⟩ (lv rm (.region id ops dr) out ex) _ (rgC (bif dr then drA P n ⟨rm,out,ex,kb⟩ ops.toList out ⟨lv rm (.region id ops dr) out ex,0,[]⟩ else opsC P n ⟨rm,out,ex,kb⟩ ops.toList out ops.toList ⟨lv rm (.region id ops dr) out ex,0,[]⟩));intro e t H nx os he h;cases dr
  ·obtain⟨k1,k2⟩:=ops_g (P:=P) (n:=n) (m:=⟨rm,out,ex,kb⟩) (all:=ops.toList) ops.toList ⟨lv rm (.region id ops false) out ex,0,[]⟩ (wf0 _) e .e t H nx os he h;exact⟨k1,fun X hm QA hQ ho=>z24 (ops:=ops.toList) (k2 X hm QA hQ ho)⟩
  ·obtain⟨k1,k2⟩:=drA_g (P:=P) (n:=n) (m:=⟨rm,out,ex,kb⟩) (ops:=ops.toList) (s:=⟨lv rm (.region id ops true) out ex,0,[]⟩) (wf0 _) e .e t H nx os he h;exact⟨k1,fun X hm QA hQ ho=>q31 (ops:=ops.toList) hm.ok (fun s=>QA .normal s) (JF.any (k2 X hm QA hQ ho)) fun s h=>h⟩
 |seq a b iha ihb=>intro out ex;exact sq_g (iha (lv rm b out ex) ex) (ihb out ex) rfl rfl (fun _=>rfl) (fun X QA s s' _ hw h=>q0g hw h) fun X QA s h=>z23 h
 |cond x a b iha ihb=>intro out ex;exact cd_g (iha out ex) (ihb out ex) (fun k h=>or_r (or_l h)) fun k h=>or_r (or_r h)
 |block id b ih=>intro out ex;exact bl_g (ih out ((id,out)::ex))
 |loop b ih=>intro out ex;refine lp_g (g:=lv rm (.loop b) out ex) (ma:=⟨rm,lv rm (.loop b) out ex,ex,kb⟩) (funext fun x=>by cases x<;>rfl) rfl rfl (fun _=>rfl) ?_;intro e t H nx os he h;obtain⟨k1,k2⟩:=ih (lv rm (.loop b) out ex) ex e t H nx os he h;exact⟨k1,fun X hm QA hQ ho=>q0g (z4u fun k h=>lv_fix h) (k2 X hm QA hQ ho)⟩
 |rangeFunc x ps a b iha ihb=>
  intro out ex;show CGJ P n ⟨rm,out,ex,kb⟩ (lv rm (.rangeFunc x ps a b) out ex) _ (bif nfB ⟨lv rm (.rangeFunc x ps a b) out ex,0,[]⟩ n then .mk (rnF P ⟨rm,out,ex,kb⟩ (lv rm (.rangeFunc x ps a b) out ex) n ((Sg.mk (lv rm (.rangeFunc x ps a b) out ex) 0 []).op x) ps a b) else noC);cases ha:nfB ⟨lv rm (.rangeFunc x ps a b) out ex,0,[]⟩ n
  ·exact z9v
  ·refine rn_g ha fun y k h=>?_;show(Nat.lor (bitO x) (Nat.lor out (Nat.lor rm (Nat.lor (orE ex) (lv rm a (lv rm b 0 []) []))))).testBit k=true;cases y with
   |nm=>exact or_r (or_l h)
   |rt=>exact or_r (or_r (or_l h))
   |ex id=>exact or_r (or_r (or_r (or_l (exM_or h))))
 |exit id=>
  intro out ex e t H nx os he h;injection h with h;subst h
  exact⟨fun o ho=>by rw[yyp.1 ho],fun X hm QA hQ ho=>j3n (ho _ yyh)⟩
 |scope b ih=>
  intro out ex e t H nx os he h;obtain⟨k1,k2⟩:=ih out ex e t H nx os he h;refine⟨k1,fun X hm QA hQ ho=>JC.scope (k2 X hm _ (fun y s s' hw hy=>?_) fun o hb=>?_)⟩
  ·cases y with
   |goto l=>exact hy
   |_=>exact hQ _ _ _ hw hy
  ·have:=ho o hb;obtain⟨y,q⟩:=o;cases y<;>exact this
 |label l=>exact fun out ex=>idc fun X QA s h=>z6u h
 |ret=>
  intro out ex e t H nx os he h;injection h with h;subst h
  exact⟨fun o ho=>by rw[yyp.1 ho],fun X hm QA hQ ho=>JC.ret (ho _ yyh)⟩
 |_=>exact fun out ex=>z9v
def flr_s{F k:Nat}{rd:Option (Nat×Nat)}:flr P F (k+1) n rd rm out c t H nx=(comp P n rm (entB c) c out []).ap (Ev.mk (Nat.sub F k) rd 0 (flr P F k)) t H nx:=rfl
def j03{F:Nat}:∀ (k:Nat),k≤F→∀ rd rb,EvOk P ⟨F-k,rd,rb,flr P F k⟩
 |0,_,rd,rb=>fun n rd rm out c t H nx os h=>by cases h
 |k+1,hk,rd,rb=>fun n rd' rm out c t H nx os h=>by
  have h:(flr P F (k+1) n rd' rm out c t H nx).outs=some os:=h;rw[flr_s] at h;obtain⟨h1,h2⟩:=j1r c out [] _ t H nx os (j03 k (by omega) rd' 0) h;refine⟨h1,fun X hm QA hQ ho=>h2 X ?_ QA hQ fun o ha=>?_⟩
  ·have e1:F-(k+1)+1=F-k:=by omega
   refine⟨hm.p,hm.ok,hm.n,?_,hm.rd⟩;have:=hm.dp;rw[this];exact e1
  ·have:=ho o ha;obtain⟨y,q⟩:=o;cases y<;>exact this
def run_ok{F:Nat}(h:(flr P F (F+1) n none rm out c t H nx).outs=some os):GC P n 0 none c ⟨rm,out,[],false⟩ (lv rm c out []) t H nx os:=by rw[flr_s] at h;obtain⟨h1,h2⟩:=j1r c out [] _ t H nx os (j03 F (yyl _) none 0) h;refine⟨h1,fun X hm QA hQ ho=>h2 X ⟨hm.p,hm.ok,hm.n,by rw[hm.dp];show 0=F-F;omega,hm.rd⟩ QA hQ fun o ha=>?_⟩;have:=ho o ha;obtain⟨y,q⟩:=o;cases y<;>exact this
abbrev Gt:=Nat×TypeId×IntKind×List Int
def rvI(k:IntKind):List Int→RV
 |[]=>.nil
 |x::r=>.cons (.i k x) (rvI k r)
def Laid(gs:List Gt)(M:Mem):Prop:=∀ q∈gs,∃ (cs:Array Value) (ty:TypeId) (fz:Nat×Nat),M q.1=some (.cells cs ty fz)∧q.2.2.2.length≤cs.size∧∀ i,i<q.2.2.2.length→cs[i]?=some (.int q.2.2.1 (q.2.2.2.getD i 0))
def glT:List Gt→Nat→G3 RO
 |[],_=>.e
 |q::r,l=>(hcp l).ap (.gl (some q.1) q.2.1 q.2.2.2.length (dep q.2.2.2.length) (Tr.ofL (dep q.2.2.2.length) (rvI q.2.2.1 q.2.2.2))) (glT r (Nat.succ l))
def z3j{k:IntKind}:∀ xs:List Int,(rvI k xs).len=xs.length
 |[]=>rfl
 |x::r=>by rw[rvI,o5,z3j r];rfl
def z8q{k:IntKind}:∀ {xs:List Int} {i:Nat},i<xs.length→(rvI k xs).nth i=.i k (xs.getD i 0)
 |x::r,0,_=>rfl
 |x::r,i+1,h=>by rw[rvI,q7z,z8q (by simpa using h)];rfl
def j3q(l:Nat):G3.get .no (.e:G3 RO) l=.no:=by unfold G3.get;rw[q42,q7e,q7e]
def j0x:∀ {gs:List Gt} {l k:Nat} {o:RO},G3.get .no (glT gs l) k=o→isNo o=false→l≤k∧∃ q,gs[k-l]?=some q∧o=.gl (some q.1) q.2.1 q.2.2.2.length (dep q.2.2.2.length) (Tr.ofL (dep q.2.2.2.length) (rvI q.2.2.1 q.2.2.2))
 |[],l,k,o,h,hn=>by subst h;rw[glT,j3q] at hn;cases hn
 |q::r,l,k,o,h,hn=>by
  rw[glT,q2v] at h;by_cases e:l=k∧l<1024
  ·rw[if_pos e] at h;subst h;refine⟨by omega,q,?_,rfl⟩;rw[show k-l=0 by omega];rfl
  ·rw[if_neg e] at h;obtain⟨h1,q',h2,h3⟩:=j0x h hn;refine⟨by omega,q',?_,h3⟩;rw[show k-l=(k-Nat.succ l)+1 by omega,yxi];exact h2
variable{gs:List Gt}
def gl_w{nx:Nat}(hz:Laid gs X.M0)(he:gs.length≤nx):JW X (st g .e ⟨glT gs 0,[]⟩ nx).toS ⟨[],[],0⟩:=fun M ρ a w h1 h2=>by
 refine⟨⟨fun l=>((gs[l]?).map (·.1)).getD 0,ρ.ty,ρ.sv⟩,⟨h1.below,h1.msub,h1.mnew,h1.mem,fun l o hl=>?_,fun l l' o o' b e1 e2 b1 b2=>?_,fun l o b e eb=>?_⟩,⟨h2.size,h2.defers,fun d v hd=>?_⟩⟩
 all_goals try
  have key:∀ {l:Nat} {o:HO},lk (mapH ⟨glT gs 0,[]⟩) l=some o→∃ q,gs[l]?=some q∧o=(RO.gl (some q.1) q.2.1 q.2.2.2.length (dep q.2.2.2.length) (Tr.ofL (dep q.2.2.2.length) (rvI q.2.2.1 q.2.2.2))).toHO:=fun {l o} hl=>by
   rw[p8] at hl;cases hh:hq ⟨glT gs 0,[]⟩ l with
   |none=>rw[hh] at hl;cases hl
   |some x=>
    rw[hh] at hl;injection hl with hl
    obtain⟨e1,e2⟩:=q05 hh;obtain⟨_,q,e3,e4⟩:=j0x (gs:=gs) (l:=0) (k:=l) e1 e2;rw[Nat.sub_zero] at e3;exact⟨q,e3,by rw[← hl,e4]⟩
 ·obtain⟨q,hq,rfl⟩:=key hl;have hg:=(yy6.1 hq).1;have ha:∀ i,i<q.2.2.2.length→(Tr.ofL (dep q.2.2.2.length) (rvI q.2.2.1 q.2.2.2)).get i=.i q.2.2.1 (q.2.2.2.getD i 0):=fun i hi=>by rw[q63 (by rw[z3j];exact q3g _) (by rw[z3j];exact hi),z8q hi]
  refine⟨yxa hg he,fun i hi=>?_,fun b hb=>?_,?_⟩
  ·rw[ha i hi];trivial
  ·injection hb with hb
   show((gs[l]?).map (·.1)).getD 0=b;rw[hq];exact hb
  ·obtain⟨cs,ty,fz,c1,c2,c3⟩:=hz q (List.mem_of_getElem? hq);refine⟨cs,ty,fz,?_,c2,fun i hi=>?_⟩
   ·show M (((gs[l]?).map (·.1)).getD 0)=_;rw[hq];exact h1.msub _ _ c1
   ·rw[ha i hi];exact⟨c3 i hi,rfl⟩
 ·obtain⟨q,hq,rfl⟩:=key e1;cases b1
 ·obtain⟨q,hq,rfl⟩:=key e;cases eb
 ·obtain⟨e1,e2⟩:=n9 (t:=⟨g,0,[],.e,.e⟩) hd;obtain⟨_,_,e3⟩:=z1j e2;rw[e3,j1k] at e2;cases e2
structure _root_.Ox.FnZ(Z:Mem→Prop)(P:Program)(f:FuncId)(v:Value):Prop where
 call:∀ az w,(callFunc f az).run P w=.ok (.enter f az) w
 run:∀ (M:Mem) (w:World),Z M→MemIn M w→Calls P f #[] w (fun e w'=>e=.returned v∧Below w.heap.size w w')
def valQ(P:Program)(rs:List ResultVar)(r:RV)(e:Exit)(s:S):Prop:=(e=.ret∨e=.normal)∧ResOk P rs s (.raw r)
variable{T':List (Nat×Ty)}{fn:Func}
def FnZ.intro{Z:Mem→Prop}(hy:∀ {X:Ctx},X.P=P→X.T=T'→X.ET=ET→X.MT=MT→XOK X)(hE:enR P f=some (fn,c)){v:Value}(hr:∀ ρ,r.cv ρ=v)
  (h:∀ X:Ctx,X.P=P→XOK X→X.n=fn.ntmps→X.rd=none→X.dp=0→Z X.M0→JC X c (valQ P fn.results.toList r) ⟨[],[],0⟩):FnZ Z P f v:=by
 obtain⟨hf,hb,ha⟩:=j1j hE;refine⟨ha,fun M w hz hM=>(callsIn_wide (n:=0)).1 (callsIn_of_wp_marks hf hb trivial ?_ rfl)⟩
 let up0:Nat→Nat→Value:=fun _ _=>Go.undef
 let ρ:Env:=⟨fun _=>0,fun _=>.bool,fun _=>Go.undef⟩
 have hg:SAT ⟨P,T',ET,MT,w,M,fn.ntmps,none,up0,0⟩ M ρ ⟨[],[],0⟩ w:=⟨Below.refl _ _,fun _ _ h=>h,fun _ _=>rfl,hM,fun l o h=>by simp[lk] at h,fun l l' o o' b h=>by simp[lk] at h,fun l o b h=>by simp[lk] at h⟩
 have hh:REG ⟨P,T',ET,MT,w,M,fn.ntmps,none,up0,0⟩ M ρ ⟨[],[],0⟩ {tmps:=(#[]:Array Value)++Array.replicate (fn.ntmps-(#[]:Array Value).size) Go.undef,defers:=[]}:=⟨by simp,⟨[],rfl,yxv,by simp,.inl rfl⟩,fun d v hd=>by simp[lk] at hd⟩
 refine wpIn_mono (h ⟨P,T',ET,MT,w,M,fn.ntmps,none,up0,0⟩ rfl (hy rfl rfl rfl rfl) rfl rfl rfl hz M ρ _ w hg hh) ?_;rintro e a1 w1 ⟨M2,ρ1,s1,k1',k2',hA,hj⟩;obtain⟨Ds,hB,hC,hk,_⟩:=k2'.defers;have fin:LeavesInM Fence.wide 0 P fn a1.tmps (fun e w'=>e=.returned v∧Below w.heap.size w w') a1.defers .returning w1:=by
  rw[hB];refine q2p hC (fun D hD=>k1'.mem _ _ (hk D hD).2) fun w' hu he=>?_;obtain⟨hF,k1⟩:=k1'.taken (fun D hD=>by
   show M D=none;cases hG:M D with
   |none=>rfl
   |some o=>have h1:=(yyi.1 (hM D o hG)).1;have h2:w.heap.size≤D:=(hk D hD).1;omega) hk hu he
  have k2:REG ⟨P,T',ET,MT,w,M,fn.ntmps,none,up0,0⟩ (M2.without Ds) ρ1 s1 {a1 with defers:=[]}:=⟨k2'.size,⟨[],rfl,yxv,by simp,.inl rfl⟩,fun d v hd=>⟨(k2'.reg d v hd).1,j5 hF (Env.upTo.refl ρ1 s1.nx) (k2'.reg d v hd).1 (k2'.reg d v hd).2⟩⟩;obtain⟨_,v',hv,hw⟩:=hj _ _ _ _ w' fn rfl rfl k1 k2;have hv:v'=r.cv ρ1:=hv;exact⟨v',hw,by rw[hv,hr],k1.below⟩
 rcases hA with rfl|rfl
 ·exact fin
 ·exact fin
def isT(v:RV):Bool:=RV.casesOn (motive:=fun _=>Bool) v (fun _ _=>false) (fun b=>b) false false false false false (fun _ _=>false) (fun _ _ _ _=>false) (fun _ _ _ _ _ _=>false) (fun _=>false) (fun _=>false) (fun _=>false) (fun _ _ _=>false) (fun _=>false) (fun _=>false) false (fun _ _=>false)
def isT_ok(h:isT v=true):v=.b true:=by
 cases v<;>first|(cases h;done)|skip
 rename_i x;have h:x=true:=h;rw[h]
def retB(rs:Cr)(o:Ex×FS):Bool:=
 match o.1 with
 |.ex _=>false
 |_=>isT (rs.ap o.2.L.t o.2.H)
def runW(P:Program)(F:Nat)(f:FuncId)(gs:List Gt)(nx:Nat):Bool:=
 match enR P f with
 |some (fn,c)=>(fun rm=>match (flr P F (Nat.succ F) fn.ntmps none rm rm c .e ⟨glT gs 0,[]⟩ nx).outs with
  |some os=>os.all (retB (crC P rm fn.results.toList))
  |none=>false) (rsM fn.results.toList)
 |none=>false
def ret_ok{o:Ex×FS}(h:retB (crC P rm rs) o=true):valQ P rs (.b true) o.1.to ((Gm.mk rm rm [] false).fs o).toS:=by
 obtain⟨x,q⟩:=o;cases x with
 |ex id=>cases h
 |nm=>exact⟨.inr rfl,cr_ok (isT_ok h) rfl⟩
 |rt=>exact⟨.inl rfl,cr_ok (isT_ok h) rfl⟩
structure Rest(P:Program)(n:Nat)(rm:Nat)(c:Code)(rs:List ResultVar)(t:T2)(H:Hg)(nx:Nat):Prop where
 ok:∀ X,Mt P n 0 none X→JC X c (valQ P rs (.b true)) (st (lv rm c rm []) t H nx).toS
def Rest.of{F:Nat}(h:(flr P F (F+1) n none rm rm c t H nx).outs=some os)(hq:os.all (retB (crC P rm rs))=true):Rest P n rm c rs t H nx:=⟨fun X hm=>JC.cl ((run_ok h).2 X hm _ q2i fun o ho=>z7i (ret_ok (yyx.1 hq o ho)))⟩
def FnZ.of{nx:Nat}(hb:∀ {X:Ctx},X.P=P→X.T=T'→X.ET=ET→X.MT=MT→XOK X)(hE:enR P f=some (fn,c))(ha:gs.length≤nx)
  (h:Rest P fn.ntmps (rsM fn.results.toList) c fn.results.toList .e ⟨glT gs 0,[]⟩ nx):FnZ (Laid gs) P f (.bool true):=
 FnZ.intro hb hE (r:=.b true) (fun _=>rfl) fun X hP hX hn hd he hz=>q0g (gl_w hz ha) (h.ok X ⟨hP,hX,hn,he,hd⟩)
def FnZ.run{nx F:Nat}(hb:∀ {X:Ctx},X.P=P→X.T=T'→X.ET=ET→X.MT=MT→XOK X)(ha:gs.length≤nx)(h:runW P F f gs nx=true):FnZ (Laid gs) P f (.bool true):=by
 unfold runW at h;split at h
 ·rename_i fn c hE;have h:(match (flr P F (F+1) fn.ntmps none (rsM fn.results.toList) (rsM fn.results.toList) c .e ⟨glT gs 0,[]⟩ nx).outs with
   |some os=>os.all (retB (crC P (rsM fn.results.toList) fn.results.toList))
   |none=>false)=true:=h
  split at h
  ·rename_i os hd;exact FnZ.of hb hE ha (Rest.of hd h)
  ·cases h
 ·cases h
def splitL(j:Nat):Code→Option (List Code×Code):=@Nat.rec (fun _=>Code→Option (List Code×Code)) (fun c=>match c with
 |.seq a b=>some ([a],b)
 |_=>none) (fun _ ih c=>match c with
 |.seq a b=>(match ih b with
  |some (x,y)=>some (a::x,y)
  |none=>none)
 |_=>none) j
def dropL(j:Nat):Code→Option Code:=@Nat.rec (fun _=>Code→Option Code) some (fun _ ih c=>match c with
 |.seq _ b=>ih b
 |_=>none) j
def JS(X:Ctx):List Code→(Exit→S→Prop)→S→Prop
 |[],QA,s=>QA .normal s
 |a::r,QA,s=>JC X a (qThen (JS X r QA) QA) s
def JS_w(hQ:JWc X QA){s s':S}(hw:JW X s s'):∀ {l:List Code},JS X l QA s→JS X l QA s'
 |[],h=>hQ _ _ _ hw h
 |_::_,h=>q0g hw h
def z4v:∀ {j:Nat} {c:Code} {l:List Code} {y:Code},splitL j c=some (l,y)→∀ {X:Ctx} {QA:Exit→S→Prop} {s:S},JS X l (qThen (JC X y QA) QA) s→JC X c QA s
 |0,c,l,y,h=>by
  cases c<;>first|(cases h;done)|skip
  rename_i a b;have h:some ([a],b)=some (l,y):=h;injection h with h
  injection h with h1 h2
  subst h1;subst h2;intro hj;exact z23 (JC.mono hj fun e s h=>by cases e<;>exact h)
 |j+1,c,l,y,h=>by
  cases c<;>first|(cases h;done)|skip
  rename_i a b;have h:(match splitL j b with
   |some (x,y)=>some (a::x,y)
   |none=>none)=some (l,y):=h
  split at h
  ·rename_i x y' hx;injection h with h
   injection h with h1 h2
   subst h1;subst h2;intro hj;refine z23 (JC.mono hj fun e s h=>?_);cases e with
   |normal=>exact z4v hx h
   |_=>exact h
  ·cases h
def lvL(rm:Nat):List Code→Nat→Nat
 |[],out=>out
 |a::r,out=>lv rm a (lvL rm r out) []
def z4w:∀ {j:Nat} {c:Code} {l:List Code} {y:Code},splitL j c=some (l,y)→lv rm c out []=lvL rm l (lv rm y out [])
 |0,c,l,y,h=>by
  cases c<;>first|(cases h;done)|skip
  rename_i a b;have h:some ([a],b)=some (l,y):=h;injection h with h
  injection h with h1 h2
  subst h1;subst h2;rfl
 |j+1,c,l,y,h=>by
  cases c<;>first|(cases h;done)|skip
  rename_i a b;have h:(match splitL j b with
   |some (x,y)=>some (a::x,y)
   |none=>none)=some (l,y):=h
  split at h
  ·rename_i x y' hx;injection h with h
   injection h with h1 h2
   subst h1;subst h2;show lv rm a (lv rm b out []) []=lv rm a (lvL rm x (lv rm y' out [])) [];rw[z4w hx]
  ·cases h
def compL(P:Program)(n rm:Nat):List Code→Nat→Cl
 |[],_=>idC
 |a::r,out=>sq ⟨rm,out,[],true⟩ (lvL rm r out) (comp P n rm true a (lvL rm r out) []) (compL P n rm r out)
def j1s:∀ {l:List Code} {out:Nat},CGJ P n ⟨rm,out,[],true⟩ (lvL rm l out) (fun X QA s=>JS X l QA s) (compL P n rm l out)
 |[],out=>fun e t H nx os he h=>by
  injection h with h;subst h
  exact⟨fun o ho=>by rw[yyp.1 ho],fun X hm QA hQ ho=>ho _ yyh⟩
 |a::r,out=>sq_g (j1r (kb:=true) a (lvL rm r out) []) j1s rfl rfl (fun _=>rfl) (fun X QA s s' hQ hw h=>JS_w hQ hw h) fun X QA s h=>h
structure Lit where
 r:List (Nat×RV)
 h:List (Nat×RO)
 nx:Nat
def mkT(l:List (Nat×RV)):T2:=@List.rec _ (fun _=>T2) .e (fun p _ ih=>(pt p.1).out p.2 ih) l
def mkG(l:List (Nat×RO)):G3 RO:=@List.rec _ (fun _=>G3 RO) .e (fun p _ ih=>(hcp p.1).ap p.2 ih) l
def z9z{d:Nat}{v:RV}:∀ {l:List (Nat×RV)},(mkT l).get d=v→isNl v=false→(d,v)∈l
 |[],h,hn=>by subst h;rw[show mkT []=.e from rfl,j1k] at hn;cases hn
 |p::r,h,hn=>by
  have e:mkT (p::r)=(pt p.1).out p.2 (mkT r):=rfl;rw[e,z1t] at h;by_cases hp:p.1=d∧p.1<256
  ·rw[if_pos hp] at h;rw[← h,← hp.1];exact yyh
  ·rw[if_neg hp] at h;exact yyj _ (z9z h hn)
def z0k{d:Nat}{o:RO}:∀ {l:List (Nat×RO)},G3.get .no (mkG l) d=o→isNo o=false→(d,o)∈l
 |[],h,hn=>by subst h;rw[show mkG []=.e from rfl,j3q] at hn;cases hn
 |p::r,h,hn=>by
  have e:mkG (p::r)=(hcp p.1).ap p.2 (mkG r):=rfl;rw[e,q2v] at h;by_cases hp:p.1=d∧p.1<1024
  ·rw[if_pos hp] at h;rw[← h,← hp.1];exact yyh
  ·rw[if_neg hp] at h;exact yyj _ (z0k h hn)
def litR(q:T2)(l:List (Nat×RV)):Bool:=@List.rec _ (fun _=>Bool) true (fun p _ ih=>bAnd (((ct p.1).out q).eqb p.2) ih) l
def litO(q:Option RO)(o:RO):Bool:=
 match q with
 |some x=>x.eqb o
 |none=>false
def litH(q:Hg)(l:List (Nat×RO)):Bool:=@List.rec _ (fun _=>Bool) true (fun p _ ih=>bAnd (litO (hq q p.1) p.2) ih) l
def litQ(l:Lit)(t:T2)(H:Hg)(n:Nat):Bool:=bAnd (Nat.beq n l.nx) (bAnd (litR t l.r) (litH H l.h))
def j0e{q:T2}:∀ {l:List (Nat×RV)},litR q l=true→∀ p∈l,q.get p.1=p.2
 |[],_,p,hp=>absurd hp yy9
 |x::r,h,p,hp=>by
  obtain⟨h1,h2⟩:=v5.1 (show bAnd (((ct x.1).out q).eqb x.2) (litR q r)=true from h);rcases yyk.1 hp with rfl|hp
  ·rw[← ct_ok];exact m9 h1
  ·exact j0e h2 p hp
def j0f{q:Hg}:∀ {l:List (Nat×RO)},litH q l=true→∀ p∈l,hq q p.1=some p.2
 |[],_,p,hp=>absurd hp yy9
 |x::r,h,p,hp=>by
  obtain⟨h1,h2⟩:=v5.1 (show bAnd (litO (hq q x.1) x.2) (litH q r)=true from h);rcases yyk.1 hp with rfl|hp
  ·unfold litO at h1;cases hh:hq q p.1 with
   |none=>rw[hh] at h1;cases h1
   |some y=>rw[hh] at h1;rw[z2v h1]
  ·exact j0f h2 p hp
def lit_ok{l:Lit}(hF:H.F=[])(h:litQ l t H nx=true):JW X (st g (mkT l.r) ⟨mkG l.h,[]⟩ l.nx).toS (st g t H nx).toS:=by
 obtain⟨h1,h2⟩:=v5.1 h;obtain⟨h2,h3⟩:=v5.1 h2;have h1:=yyg h1;rw[← h1];refine q23 (s:=(st g t H nx).toS) (fun d v hd=>?_) fun k o ho=>⟨o,?_,HSub.refl _⟩
 ·obtain⟨e1,e2⟩:=n9 (t:=⟨g,0,[],.e,mkT l.r⟩) hd;obtain⟨q1,q2,q3⟩:=z1j e2;rw[q3] at e1 e2;have hm:=z9z rfl e2;have hv:=j0e h2 _ hm;have hg:(⟨g,0,[],.e,t⟩:Rg).get d=(mkT l.r).get d:=by unfold Rg.get;rw[show Nat.blt d 512=true by simpa using q1];show trg g t d=_;unfold trg;rw[q2];exact hv
  rw[e1];exact m6 hg e2
 ·have ho:lk (mapH ⟨mkG l.h,[]⟩) k=some o:=ho;rw[p8] at ho;cases hh:hq ⟨mkG l.h,[]⟩ k with
  |none=>rw[hh] at ho;cases ho
  |some x=>
   rw[hh] at ho;injection ho with ho
   obtain⟨e1,e2⟩:=q05 hh;have hm:=z0k e1 e2;have:=j0f h3 _ hm;rw[← ho];exact lkH this
structure RestF(P:Program)(f:FuncId)(k:Nat)(l:Lit):Prop where
 ok:∀ fn c0 c,enR P f=some (fn,c0)→dropL k c0=some c→Rest P fn.ntmps (rsM fn.results.toList) c fn.results.toList (mkT l.r) ⟨mkG l.h,[]⟩ l.nx
def outS(r:R1)(f:T2→Hg→Nat→Bool):Bool:=@R1.rec (fun _=>(T2→Hg→Nat→Bool)→Bool) (fun _=>false) (fun t H n f=>f t H n) (fun _ _ _ _ _=>false) (fun _ _ _ _=>false) (fun _ _=>false) r f
def outS_ok{r:R1}{f:T2→Hg→Nat→Bool}(h:outS r f=true):∃ t H n,r.outs=some [(.nm,⟨tL t,H,n⟩)]∧f t H n=true:=by
 cases r<;>first|(cases h;done)|skip
 exact⟨_,_,_,rfl,h⟩
def stepW(P:Program)(F:Nat)(f:FuncId)(k j:Nat)(l l':Lit):Bool:=
 match enR P f with
 |some (fn,c0)=>(match dropL k c0 with
  |some c=>(match splitL j c with
   |some (az,y)=>(fun rm=>outS ((compL P fn.ntmps rm az (lv rm y rm [])).ap ⟨0,none,0,flr P F F⟩ (mkT l.r) ⟨mkG l.h,[]⟩ l.nx) (litQ l')) (rsM fn.results.toList)
   |none=>false)
  |none=>false)
 |none=>false
def q60:∀ {k j:Nat} {c0 c y:Code} {az:List Code},dropL k c0=some c→splitL j c=some (az,y)→dropL (k+(j+1)) c0=some y
 |0,0,c0,c,y,az,h,h2=>by
  injection h with h;subst h
  cases c0<;>first|(cases h2;done)|skip
  rename_i a b;have h2:some ([a],b)=some (az,y):=h2;injection h2 with h2
  injection h2 with _ h2
  subst h2;rfl
 |0,j+1,c0,c,y,az,h,h2=>by
  injection h with h;subst h
  cases c0<;>first|(cases h2;done)|skip
  rename_i a b;have h2:(match splitL j b with
   |some (x,y)=>some (a::x,y)
   |none=>none)=some (az,y):=h2
  split at h2
  ·rename_i x y' hx;injection h2 with h2
   injection h2 with _ h2
   subst h2;have:=q60 (k:=0) (c0:=b) rfl hx;show dropL (0+(j+1)+1) (.seq a b)=_;exact this
  ·cases h2
 |k+1,j,c0,c,y,az,h,h2=>by
  cases c0<;>first|(cases h;done)|skip
  rename_i a b;have h:dropL k b=some c:=h;have:=q60 h h2;rw[show k+1+(j+1)=(k+(j+1))+1 by omega];exact this
def q64{F:Nat}{k j:Nat}{l l':Lit}(h:stepW P F f k j l l'=true)(hr:RestF P f (k+(j+1)) l'):RestF P f k l:=⟨fun fn c0 c hE hc=>⟨fun X hm=>by
 unfold stepW at h;rw[hE] at h;simp only at h;rw[hc] at h;simp only at h;split at h
 ·rename_i az y hs;obtain⟨t',H',n',r1,r2⟩:=outS_ok h;have he:EvOk P ⟨0,none,0,flr P F F⟩:=by have:=j03 (P:=P) F (yyl F) none 0;rw[Nat.sub_self] at this;exact this
  obtain⟨g1,g2⟩:=j1s _ _ _ _ _ he r1;have hF:H'.F=[]:=g1 _ yyh;have hk:=(hr.ok fn c0 y hE (q60 hc hs)).ok X hm;rw[z4w hs];refine JC.cl (z4v hs (g2 X hm _ (fun e s s' hw h=>?_) fun o ho=>?_))
  ·cases e with
   |normal=>exact q0g hw h
   |_=>exact q2i _ _ _ hw h
  ·rw[yyp.1 ho];exact JC.mono (q0g (lit_ok hF r2) hk) fun e s h=>z7i h
 ·cases h⟩⟩
def lastW(P:Program)(F:Nat)(f:FuncId)(k:Nat)(l:Lit):Bool:=
 match enR P f with
 |some (fn,c0)=>(match dropL k c0 with
  |some c=>(fun rm=>match (flr P F (Nat.succ F) fn.ntmps none rm rm c (mkT l.r) ⟨mkG l.h,[]⟩ l.nx).outs with
   |some os=>os.all (retB (crC P rm fn.results.toList))
   |none=>false) (rsM fn.results.toList)
  |none=>false)
 |none=>false
def z7m{F:Nat}{k:Nat}{l:Lit}(h:lastW P F f k l=true):RestF P f k l:=⟨fun fn c0 c hE hc=>by
 unfold lastW at h;rw[hE] at h;simp only at h;rw[hc] at h;have h:(match (flr P F (F+1) fn.ntmps none (rsM fn.results.toList) (rsM fn.results.toList) c (mkT l.r) ⟨mkG l.h,[]⟩ l.nx).outs with
  |some os=>os.all (retB (crC P (rsM fn.results.toList) fn.results.toList))
  |none=>false)=true:=h
 split at h
 ·rename_i os ha;exact Rest.of ha h
 ·cases h⟩
def lit0(gs:List Gt)(nx:Nat):Lit:=⟨[],(@List.rec _ (fun _=>Nat→List (Nat×RO)) (fun _=>[]) (fun q _ ih l=>(l,.gl (some q.1) q.2.1 q.2.2.2.length (dep q.2.2.2.length) (Tr.ofL (dep q.2.2.2.length) (rvI q.2.2.1 q.2.2.2)))::ih (Nat.succ l)) gs 0),nx⟩
def lit0_eq:mkG (lit0 gs nx).h=glT gs 0:=by
 have key:∀ (gs:List Gt) (l:Nat),mkG (@List.rec _ (fun _=>Nat→List (Nat×RO)) (fun _=>[]) (fun q _ ih l=>(l,.gl (some q.1) q.2.1 q.2.2.2.length (dep q.2.2.2.length) (Tr.ofL (dep q.2.2.2.length) (rvI q.2.2.1 q.2.2.2)))::ih (Nat.succ l)) gs l)=glT gs l:=fun gs=>by
  induction gs with
  |nil=>intro l;rfl
  |cons q r ih=>intro l;show(hcp l).ap _ (mkG _)=(hcp l).ap _ (glT r (Nat.succ l));rw[ih]
 exact key gs 0
def z72(hb:∀ {X:Ctx},X.P=P→X.T=T'→X.ET=ET→X.MT=MT→XOK X)(hE:(enR P f).isSome=true)(ha:gs.length≤nx)(h:RestF P f 0 (lit0 gs nx)):FnZ (Laid gs) P f (.bool true):=by
 cases he:enR P f with
 |none=>rw[he] at hE;cases hE
 |some q=>obtain⟨fn,c⟩:=q;have:=h.ok fn c c he rfl;rw[lit0_eq] at this;exact FnZ.of hb he ha this
end
end Ox.Rn
namespace Go.Proofs.YtjecebccchhmhaaGreatDoor
open Go Go.RowKit Ox Ox.Rn
noncomputable def glO(q:Gt):RO:=.gl (some q.1) q.2.1 q.2.2.2.length (dep q.2.2.2.length) (Tr.ofL (dep q.2.2.2.length) (rvI q.2.2.1 q.2.2.2))
def g0:Gt:=(0,5,.u8,[0,1,28,2,29,14,24,3,30,22,20,15,25,17,4,8,31,27,13,23,21,19,16,7,26,12,18,6,11,5,10,9])
def g1:Gt:=(1,5,.u8,[0,1,56,2,57,49,28,3,61,58,42,50,38,29,17,4,62,47,59,36,45,43,51,22,53,39,33,30,24,18,12,5,63,55,48,27,60,41,37,16,46,35,44,21,52,32,23,11,54,26,40,15,34,20,31,10,25,14,19,9,13,8,7,6])
def gsT:List Gt:=[g0,g1]
noncomputable def gl0:RO:=glO g0
noncomputable def gl1:RO:=glO g1
noncomputable def L47_0:Ox.Rn.Lit:=⟨[(1,(.p 16 0)),(2,(.p 17 0)),(3,(.o 98 1 0 3 false 0)),(4,(.i .i64 0)),(6,(.i .i64 19)),(7,(.o 222 1 0 5 false 0)),(8,(.i .i64 0)),(9,(.o 269 1 0 1 false 0)),(10,(.i .i64 0))],[(0,gl0),(1,gl1),(10,(.blk 24 (some 2) 4 2 (.nd (.nd (.lf (.i .i64 10)) (.lf (.i .i64 15))) (.nd (.lf (.i .i64 3)) (.lf (.i .i64 2)))))),(11,(.blk 38 (some 2) 10 4 (.nd (.nd (.nd (.nd (.lf (.i .i64 5)) (.lf (.i .i64 35))) (.nd (.lf (.i .i64 20)) (.lf (.i .i64 5)))) (.nd (.nd (.lf (.i .i64 15)) (.lf (.i .i64 5))) (.nd (.lf (.i .i64 25)) (.lf (.i .i64 5))))) (.nd (.nd (.nd (.lf (.i .i64 6)) (.lf (.i .i64 37))) (.nd (.lf (.i .i64 22)) (.lf (.i .i64 5)))) (.nd (.nd (.lf (.i .i64 15)) (.lf (.i .i64 5))) (.nd (.lf (.i .i64 26)) (.lf (.i .i64 5)))))))),(14,(.blk 24 (some 2) 4 2 (.nd (.nd (.lf (.i .i64 10)) (.lf (.i .i64 15))) (.nd (.lf (.i .i64 3)) (.lf (.i .i64 2)))))),(15,(.blk 38 (some 2) 10 4 (.nd (.nd (.nd (.nd (.lf (.i .i64 5)) (.lf (.i .i64 35))) (.nd (.lf (.i .i64 20)) (.lf (.i .i64 5)))) (.nd (.nd (.lf (.i .i64 15)) (.lf (.i .i64 5))) (.nd (.lf (.i .i64 25)) (.lf (.i .i64 5))))) (.nd (.nd (.nd (.lf (.i .i64 6)) (.lf (.i .i64 37))) (.nd (.lf (.i .i64 22)) (.lf (.i .i64 5)))) (.nd (.nd (.lf (.i .i64 15)) (.lf (.i .i64 5))) (.nd (.lf (.i .i64 26)) (.lf (.i .i64 5)))))))),(16,(.blk 33 none 2 1 (.nd (.lf (.o 10 2 0 2 false 0)) (.lf (.o 11 2 0 5 false 0))))),(17,(.blk 33 none 2 1 (.nd (.lf (.o 14 2 0 1 false 0)) (.lf (.o 15 2 0 5 false 0))))),(98,(.blk 3 (some 1) 3 2 (.nd (.nd (.lf (.i .i64 0)) (.lf (.i .i64 3))) (.lf (.i .i64 1))))),(222,(.blk 2 (some 1) 5 3 (.nd (.nd (.nd (.lf (.i .i64 5)) (.lf (.i .i64 22))) (.nd (.lf (.i .i64 20)) (.lf .u))) (.nd (.nd (.lf (.i .i64 6)) (.lf .u)) (.nd (.lf (.i .i64 21)) (.lf .u)))))),(269,(.blk 3 (some 1) 1 0 (.lf (.i .i64 2))))],270⟩
noncomputable def L47_1:Ox.Rn.Lit:=⟨[(1,(.p 16 0)),(2,(.p 17 0)),(3,(.o 98 1 0 3 false 0)),(4,(.i .i64 0)),(6,(.i .i64 19)),(7,(.o 222 1 0 5 false 0)),(8,(.i .i64 0)),(9,(.o 269 1 0 1 false 0)),(10,(.i .i64 0)),(11,(.o 392 2 0 2 false 0)),(12,(.i .i64 0))],[(0,gl0),(1,gl1),(10,(.blk 24 (some 2) 4 2 (.nd (.nd (.lf (.i .i64 10)) (.lf (.i .i64 15))) (.nd (.lf (.i .i64 3)) (.lf (.i .i64 2)))))),(11,(.blk 38 (some 2) 10 4 (.nd (.nd (.nd (.nd (.lf (.i .i64 5)) (.lf (.i .i64 35))) (.nd (.lf (.i .i64 20)) (.lf (.i .i64 5)))) (.nd (.nd (.lf (.i .i64 15)) (.lf (.i .i64 5))) (.nd (.lf (.i .i64 25)) (.lf (.i .i64 5))))) (.nd (.nd (.nd (.lf (.i .i64 6)) (.lf (.i .i64 37))) (.nd (.lf (.i .i64 22)) (.lf (.i .i64 5)))) (.nd (.nd (.lf (.i .i64 15)) (.lf (.i .i64 5))) (.nd (.lf (.i .i64 26)) (.lf (.i .i64 5)))))))),(14,(.blk 24 (some 2) 4 2 (.nd (.nd (.lf (.i .i64 10)) (.lf (.i .i64 15))) (.nd (.lf (.i .i64 3)) (.lf (.i .i64 2)))))),(15,(.blk 38 (some 2) 10 4 (.nd (.nd (.nd (.nd (.lf (.i .i64 5)) (.lf (.i .i64 35))) (.nd (.lf (.i .i64 20)) (.lf (.i .i64 5)))) (.nd (.nd (.lf (.i .i64 15)) (.lf (.i .i64 5))) (.nd (.lf (.i .i64 25)) (.lf (.i .i64 5))))) (.nd (.nd (.nd (.lf (.i .i64 6)) (.lf (.i .i64 37))) (.nd (.lf (.i .i64 22)) (.lf (.i .i64 5)))) (.nd (.nd (.lf (.i .i64 15)) (.lf (.i .i64 5))) (.nd (.lf (.i .i64 26)) (.lf (.i .i64 5)))))))),(16,(.blk 33 none 2 1 (.nd (.lf (.o 10 2 0 2 false 0)) (.lf (.o 11 2 0 5 false 0))))),(17,(.blk 33 none 2 1 (.nd (.lf (.o 14 2 0 1 false 0)) (.lf (.o 15 2 0 5 false 0))))),(98,(.blk 3 (some 1) 3 2 (.nd (.nd (.lf (.i .i64 0)) (.lf (.i .i64 3))) (.lf (.i .i64 1))))),(222,(.blk 2 (some 1) 5 3 (.nd (.nd (.nd (.lf (.i .i64 5)) (.lf (.i .i64 22))) (.nd (.lf (.i .i64 20)) (.lf .u))) (.nd (.nd (.lf (.i .i64 6)) (.lf .u)) (.nd (.lf (.i .i64 21)) (.lf .u)))))),(269,(.blk 3 (some 1) 1 0 (.lf (.i .i64 2)))),(392,(.blk 47 (some 2) 4 2 (.nd (.nd (.lf (.i .i64 0)) (.lf (.i .i64 1))) (.nd (.lf (.i .i64 15)) (.lf (.i .i64 5))))))],393⟩
noncomputable def L47_3:Ox.Rn.Lit:=⟨[(1,(.p 16 0)),(3,(.o 98 1 0 3 false 0)),(4,(.i .i64 0)),(6,(.i .i64 19)),(7,(.o 222 1 0 5 false 0)),(8,(.i .i64 0)),(9,(.o 269 1 0 1 false 0)),(10,(.i .i64 0)),(11,(.o 392 2 0 2 false 0)),(12,(.i .i64 0)),(14,(.i .i64 19)),(15,(.i .i64 5)),(16,(.i .i64 0)),(17,(.i .i64 16)),(18,(.o 471 1 0 2 false 0)),(19,(.i .i64 0)),(20,(.i .i64 14))],[(0,gl0),(1,gl1),(10,(.blk 24 (some 2) 4 2 (.nd (.nd (.lf (.i .i64 10)) (.lf (.i .i64 15))) (.nd (.lf (.i .i64 3)) (.lf (.i .i64 2)))))),(11,(.blk 38 (some 2) 10 4 (.nd (.nd (.nd (.nd (.lf (.i .i64 5)) (.lf (.i .i64 35))) (.nd (.lf (.i .i64 20)) (.lf (.i .i64 5)))) (.nd (.nd (.lf (.i .i64 15)) (.lf (.i .i64 5))) (.nd (.lf (.i .i64 25)) (.lf (.i .i64 5))))) (.nd (.nd (.nd (.lf (.i .i64 6)) (.lf (.i .i64 37))) (.nd (.lf (.i .i64 22)) (.lf (.i .i64 5)))) (.nd (.nd (.lf (.i .i64 15)) (.lf (.i .i64 5))) (.nd (.lf (.i .i64 26)) (.lf (.i .i64 5)))))))),(16,(.blk 33 none 2 1 (.nd (.lf (.o 10 2 0 2 false 0)) (.lf (.o 11 2 0 5 false 0))))),(98,(.blk 3 (some 1) 3 2 (.nd (.nd (.lf (.i .i64 0)) (.lf (.i .i64 3))) (.lf (.i .i64 1))))),(222,(.blk 2 (some 1) 5 3 (.nd (.nd (.nd (.lf (.i .i64 5)) (.lf (.i .i64 22))) (.nd (.lf (.i .i64 20)) (.lf .u))) (.nd (.nd (.lf (.i .i64 6)) (.lf .u)) (.nd (.lf (.i .i64 21)) (.lf .u)))))),(269,(.blk 3 (some 1) 1 0 (.lf (.i .i64 2)))),(392,(.blk 47 (some 2) 4 2 (.nd (.nd (.lf (.i .i64 0)) (.lf (.i .i64 1))) (.nd (.lf (.i .i64 15)) (.lf (.i .i64 5)))))),(471,(.blk 3 (some 1) 2 1 (.nd (.lf (.i .i64 0)) (.lf (.i .i64 4)))))],473⟩
end Go.Proofs.YtjecebccchhmhaaGreatDoor
