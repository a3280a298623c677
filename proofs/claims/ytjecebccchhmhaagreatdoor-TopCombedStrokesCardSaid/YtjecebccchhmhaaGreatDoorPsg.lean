/- Texts of the proof of the statement that the last text proves. -/
import Derived.Test.YtjecebccchhmhaaGreatDoorPsf
import Derived.ProofKit
import Derived.OpenShut
import Derived.Carry
import Derived.JoinedOf
import Derived.FnData
import GoSem.ClaimJoined
set_option linter.all false
set_option maxHeartbeats 2000000
variable{w1:Go.World}{L b i m n:Nat}{Rd:List (List Nat)}{v:Int}{f:Go.FuncId}{x:Go.Operand}{g:Bool}{k:Go.IntKind}{c1 c2 cs:List Prop}{gg:Nat×Bool}{t:Go.TypeId}{bt:Nat→Nat}{P:Go.Program}
namespace Ox
open Go Go.RowKit Go.ChangeShapes Go.WideShapes Go.ChangeAt
section
variable {H:Type}{enc:TypeId×Value→H}{P:Program}{w:World}{base:Nat}{spare:Nat→Bool}{held:Bool}
def Ty.argB:Ty→Bool
 |.int _|.bool|.nil=>true
 |.slice e=>e.argB&&decide (0<e.size)
 |.arr _ e=>e.argB
 |.cons a b=>a.argB&&b.argB
 |.ptr _=>false
def q7c{b off n:Nat}{spot:Option Nat}{cs:List Value}(h:w.cells? base ⟨b,off,spot⟩ n=some cs)(hn:0<n) :
  spot=none∧∃ c ty fz,w.heap[b]?=some (.cells c ty fz)∧cs=(c.toList.drop off).take n:=by
 unfold World.cells? at h;split at h
 ·have hl:=mapM_some_length h;have hg:=fun i (hi:i<n)=>mapM_some_get h i i (by simp[hi]);have h0:=hg 0 hn;rw[List.length_range] at hl;rw[yyv (by omega)] at h0;simp only[Addr.add,if_true,World.cell?] at h0;split at h0
  ·rename_i c ty fz hb;split at h0
   ·cases h0
   ·rename_i hs;have hs:spot=none:=by simpa using hs
    subst hs;refine⟨rfl,c,ty,fz,hb,?_⟩;apply List.ext_getElem?;intro i;rw[yxl];by_cases hi:i<n
    ·rw[if_pos hi,← hg i hi,z6,x4 hb,List.getElem?_drop];simp
    ·rw[if_neg hi,yxx (by omega)]
  ·cases h0
 ·cases h
def Ty.fit:(t:Ty)→t.den→Prop
 |.int k,n=>inK k n
 |.bool,_=>True
 |.slice e,l=>∀ y∈l,e.fit y
 |.ptr _,_=>True
 |.arr _ e,l=>∀ y∈l,e.fit y
 |.nil,_=>True
 |.cons a b,y=>a.fit y.1∧b.fit y.2
def inK_wf{n:Int}(h:(Lit.int k n).wf=true):inK k n:=by simp only[Lit.wf,yyc,yyq] at h;cases k<;>exact h
def RepA(P:Program)(t:Ty):Prop:=∀ {H:Type} {enc:TypeId×Value→H} {w:World} {base:Nat} {spare:Nat→Bool} {held:Bool} (id:TypeId) (fuel:Nat) (cs:List Value) (x:DataW H×List MemPlace),
 TyOf P t id→t.argB=true→DataW.trod enc P w base spare held fuel id cs=some x→∃ y,Rep (fun b=>w.heap[b]?) t y cs∧t.fit y
def RepF(P:Program)(t:Ty):Prop:=∀ {H:Type} {enc:TypeId×Value→H} {w:World} {base:Nat} {spare:Nat→Bool} {held:Bool} (fs:List Field) (off fuel:Nat) (cs:List Value),
 TyOf.fields P t fs off→t.argB=true→cs.length=off+t.size→(∀ (i:Nat) (f:Field),fs[i]?=some f→∃ x,DataW.trod enc P w base spare held fuel f.type ((cs.drop f.offset).take (P.cellsOf f.type))=some x) →
  ∃ y,Rep (fun b=>w.heap[b]?) t y (cs.drop off)∧t.fit y
def z8h{α:Type}{p:Nat→α→Prop}(h:∀ i,i<n→∃ y,p i y):∃ l:List α,l.length=n∧∀ i (hi:i<l.length),p i (l.get ⟨i,hi⟩):=by
 induction n with
 |zero=>exact⟨[],rfl,fun i hi=>absurd hi (by simp)⟩
 |succ n ih=>
  obtain⟨l,h1,h2⟩:=ih fun i hi=>h i (by omega);obtain⟨y,hy⟩:=h n (by omega);refine⟨l++[y],by simp[h1],fun i hi=>?_⟩;simp only[List.get_eq_getElem];by_cases hl:i<l.length
  ·rw[List.getElem_append_left hl];exact h2 i hl
  ·have:i=l.length:=by simp at hi;omega
   subst this;rw[List.getElem_append_right (yyo _)];simp only[Nat.sub_self,List.getElem_cons_zero];rw[h1];exact hy
def rep_all(P:Program):∀ t:Ty,RepA P t∧RepF P t:=by
 intro t;induction t with
 |int k=>
  refine⟨fun id fuel cs x ht _ h=>?_,fun fs off fuel cs hf _ _ _=>by simp[TyOf.fields] at hf⟩;simp only[TyOf] at ht;have hu:=ht.under;cases fuel with
  |zero=>simp[DataW.trod] at h
  |succ n=>
   unfold DataW.trod at h;rw[hu] at h;split at h<;>try (simp_all;done)
   rename_i k' q n' he;split at h
   ·rename_i hk;injection he with he
    injection he with he
    subst he;exact⟨n',by simp only[Rep];rw[hk.1],inK_wf hk.2⟩
   ·cases h
 |bool=>
  refine⟨fun id fuel cs x ht _ h=>?_,fun fs off fuel cs hf _ _ _=>by simp[TyOf.fields] at hf⟩;simp only[TyOf] at ht;have hu:=ht.under;cases fuel with
  |zero=>simp[DataW.trod] at h
  |succ n=>
   unfold DataW.trod at h;rw[hu] at h;split at h<;>try (simp_all;done)
   rename_i b he;exact⟨b,by simp only[Rep],trivial⟩
 |slice e ih=>
  refine⟨@fun H enc w base spare held id fuel cs x ht hb h=>?_,fun fs off fuel cs hf _ _ _=>by simp[TyOf.fields] at hf⟩;simp only[TyOf] at ht;obtain⟨eid,hi,he⟩:=ht;simp only[Ty.argB,yyc,yyq] at hb;have hj:=q1n he;rcases DataW.trod_slice hi.under h with⟨h0,_⟩|⟨a,len,cap,elems,rest,n,_,rfl,_,_,hA,hw,hN,hg,_⟩
  ·exact⟨[],by simp only[Rep];exact⟨none,0,h0,yyo _,yyw _,fun _=>rfl,.inl rfl⟩,fun y hy=>by cases hy⟩
  ·have each:∀ i,i<len→∃ y:e.den,∃ spot c ty fz,a=⟨a.block,a.off,spot⟩∧(spot=none∨i≠0)∧∃ _:w.heap[a.block]?=some (.cells c ty fz),Rep (fun b=>w.heap[b]?) e y ((c.toList.drop (a.off+i*e.size)).take e.size)∧e.fit y:=by
    intro i hh;have h1:=hg i hh;rw[yyv (by omega),yyn,hj] at h1;obtain⟨ce,h2,h3⟩:=h1;obtain⟨blk,off,spot⟩:=a;by_cases h0:i*e.size=0
    ·have hp:i=0:=by
      rcases Nat.mul_eq_zero.1 h0 with h0|h0
      ·exact h0
      ·omega
     subst hp;simp only[Nat.zero_mul,Addr.add,if_true] at h2;obtain⟨hs,c,ty,fz,h4,rfl⟩:=q7c h2 hb.2;obtain⟨y,hy,hv⟩:=ih.1 eid n _ _ he hb.1 h3;exact⟨y,spot,c,ty,fz,rfl,.inl hs,h4,by simpa using hy,hv⟩
    ·have e1:(Addr.add ⟨blk,off,spot⟩ (i*e.size))=⟨blk,off+i*e.size,none⟩:=by simp only[Addr.add,if_neg h0]
     rw[e1] at h2;obtain⟨hs,c,ty,fz,h4,rfl⟩:=q7c h2 hb.2;obtain⟨y,hy,hv⟩:=ih.1 eid n _ _ he hb.1 h3;exact⟨y,spot,c,ty,fz,rfl,.inr (fun hp=>h0 (by rw[hp,Nat.zero_mul])),h4,hy,hv⟩
   by_cases hB:len=0
   ·subst hB;exact⟨[],by simp only[Rep];exact⟨some a,cap,rfl,yyw _,hw,(fun h=>by cases h),.inl rfl⟩,fun y hy=>by cases hy⟩
   ·obtain⟨y0,spot,c,ty,fz,ha,hs,hc,_⟩:=each 0 (by omega);have hs:spot=none:=hs.resolve_right (fun h=>h rfl);subst hs;obtain⟨l,hl,hr⟩:=z8h (p:=fun i (y:e.den)=>Rep (fun b=>w.heap[b]?) e y ((c.toList.drop (a.off+i*e.size)).take e.size)∧e.fit y) (n:=len) (fun i hh=>by
     obtain⟨y,_,c',ty',fz',_,_,hd,hy⟩:=each i hh;rw[hc] at hd;injection hd with hd
     injection hd with hd _ _
     subst hd;exact⟨y,hy⟩)
    refine⟨l,?_,fun y hy=>by obtain⟨i,hi,rfl⟩:=List.mem_iff_get.1 hy;exact(hr i.1 i.2).2⟩
    simp only[Rep];refine⟨some a,cap,by rw[hl],by rw[hl];exact hA,hw,(fun h=>by cases h),.inr ⟨a.block,a.off,c,ty,fz,by rw[ha],hc,fun i hi=>(hr i hi).1⟩⟩
 |ptr e ih=>exact⟨fun id fuel cs x _ hb _=>by simp[Ty.argB] at hb,fun fs off fuel cs hf _ _ _=>by simp[TyOf.fields] at hf⟩
 |arr n e ih=>
  refine⟨@fun H enc w base spare held id fuel cs x ht hb h=>?_,fun fs off fuel cs hf _ _ _=>by simp[TyOf.fields] at hf⟩;simp only[TyOf] at ht;obtain⟨eid,hi,he⟩:=ht;simp only[Ty.argB] at hb;have hj:=q1n he;have hC:P.cellsOf id=n*e.size:=q1n (t:=.arr n e) ⟨eid,hi,he⟩;obtain⟨xs,m,_,_,hl,hz,hg⟩:=DataW.trod_array hi.under h;obtain⟨l,h1,h2⟩:=z8h (p:=fun i (y:e.den)=>Rep (fun b=>w.heap[b]?) e y ((cs.drop (i*e.size)).take e.size)∧e.fit y) (n:=n) (fun i hh=>by have h3:=hg i hh;rw[hj,yyv (by omega)] at h3;exact ih.1 eid m _ _ he hb h3)
  exact⟨l,by simp only[Rep];exact⟨h1,by rw[hl,hC],fun i hi=>(h2 i hi).1⟩,fun y hy=>by obtain⟨i,hi,rfl⟩:=List.mem_iff_get.1 hy;exact(h2 i.1 i.2).2⟩
 |nil=>refine⟨fun id fuel cs x ht _ _=>by simp[TyOf] at ht,fun fs off fuel cs hf _ hl _=>⟨(),?_,trivial⟩⟩;simp only[Rep,Ty.size] at hl ⊢;exact List.drop_of_length_le (by omega)
 |cons a b iha ihb=>
  have hF:RepF P (.cons a b):=by
   intro H enc w base spare held fs off fuel cs hf hb hl hg;cases fs with
   |nil=>simp[TyOf.fields] at hf
   |cons f r=>simp only[TyOf.fields] at hf;obtain⟨h1,h2,h3,h4⟩:=hf;simp only[Ty.argB,yyc] at hb;simp only[Ty.size] at hl;obtain⟨x,hx⟩:=hg 0 f rfl;rw[h1,q1n h2] at hx;obtain⟨y1,hD,hE⟩:=iha.1 _ _ _ _ h2 hb.1 hx;obtain⟨y2,hG,hH⟩:=ihb.2 r (off+a.size) fuel cs h4 hb.2 (by omega) fun i f hf=>hg (i+1) f (by simpa using hf);refine⟨(y1,y2),?_,hE,hH⟩;simp only[Rep];refine⟨_,_,?_,hD,hG⟩;rw[← List.drop_drop,List.take_append_drop]
  refine⟨@fun H enc w base spare held id fuel cs x ht hb h=>?_,hF⟩;have hJ:=q1n ht;simp only[TyOf] at ht;obtain⟨fs,hi,hm⟩:=ht;obtain⟨xs,n,_,_,hl,hz,hg⟩:=DataW.trod_struct hi.under h;have hK:TyOf.fields P (.cons a b) fs.toList 0:=by
   split at hm
   ·rename_i f r hL;rw[hL];simp only[TyOf.fields];simpa using hm
   ·exact hm.elim
  have:=hF fs.toList 0 n cs hK hb (by rw[hl,hJ];omega) (held:=held) (enc:=enc) (w:=w) (base:=base) (spare:=spare) fun i f hf=>by
   have h1:=hg i f (by simpa using hf);have hM:i<xs.length:=by rw[hz];have:=(yy7.1 hf).1;simpa using this
   rw[yyv hM] at h1;exact⟨_,h1⟩
  simpa using this
def Dat:List Ty→Type
 |[]=>Unit
 |t::ts=>t.den×Dat ts
def Dat.av:{ts:List Ty}→Dat ts→AV
 |[],_=>.anil
 |t::_,x=>.acons (.val t x.1) (Dat.av x.2)
def Dat.fit:{ts:List Ty}→Dat ts→Prop
 |[],_=>True
 |t::_,x=>t.fit x.1∧Dat.fit x.2
def tysB(P:Program):List Ty→List TypeId→Bool
 |[],[]=>true
 |t::ts,i::is=>(tyB P t i&&t.argB)&&(P.readableRec i&&decide (i<P.types.size))&&tysB P ts is
 |_,_=>false
variable{t:Ty}
def agg_of{id:TypeId}(ht:TyOf P t id)(hb:t.argB=true):(t.agg=true∧((∃ fs,P.underlying id=some (.struct fs))∨∃ n e,P.underlying id=some (.array n e))) ∨
  (t.agg=false∧((∃ k,P.underlying id=some (.int k))∨P.underlying id=some .bool∨∃ e,P.underlying id=some (.slice e))):=by
 cases t with
 |int k=>simp only[TyOf] at ht;exact .inr ⟨rfl,.inl ⟨k,ht.under⟩⟩
 |bool=>simp only[TyOf] at ht;exact .inr ⟨rfl,.inr (.inl ht.under)⟩
 |slice e=>simp only[TyOf] at ht;obtain⟨eid,h,_⟩:=ht;exact .inr ⟨rfl,.inr (.inr ⟨eid,h.under⟩)⟩
 |ptr e=>simp[Ty.argB] at hb
 |arr n e=>simp only[TyOf] at ht;obtain⟨eid,h,_⟩:=ht;exact .inl ⟨rfl,.inr ⟨n,eid,h.under⟩⟩
 |nil=>simp[TyOf] at ht
 |cons a b=>simp only[TyOf] at ht;obtain⟨fs,h,_⟩:=ht;exact .inl ⟨rfl,.inl ⟨fs,h.under⟩⟩
def arg_rv{ρ:Env}{id:TypeId}{v:Value}{d:DataW H}{ps:List MemPlace}(ht:TyOf P t id)(hb:t.argB=true)(hv:Value.okWide P w .any base id v){b0:Nat}
  (h:DataW.Trod enc P w b0 spare held id v d ps):∃ y,(AV.val t y).rv (fun b=>w.heap[b]?) ρ v∧t.fit y:=by
 obtain⟨fuel,h⟩:=h;obtain⟨y,hy,he⟩:=(rep_all P t).1 id fuel _ _ ht hb h;refine⟨y,?_,he⟩;simp only[AV.rv];refine⟨_,hy,?_⟩;unfold Value.okWide at hv;rcases agg_of ht hb with⟨ha,hu⟩|⟨ha,hu⟩
 ·have:∃ cs,v=.agg cs:=by rcases hu with⟨fs,hu⟩|⟨n,e,hu⟩<;>· rw[hu] at hv;obtain⟨cs,h1,_⟩:=hv;exact⟨cs,h1⟩
  obtain⟨cs,rfl⟩:=this;rw[x5 ha];simp[Value.cells]
 ·have hd:v.oneCell'=true:=by rcases hu with⟨k,hu⟩|hu|⟨e,hu⟩<;>rw[hu] at hv<;>simp only[Cell.okWide,hu,Cell.ok] at hv<;>(split at hv<;>first|rfl|(exact hv.elim)|(split at hv<;>first|rfl|exact hv.elim))
  rw[q0r hd];simp[Ty.wrap,ha]
variable{ts:List Ty}
def q6p{i:TypeId}{is:List TypeId}(h:tysB P (t::ts) (i::is)=true):TyOf P t i∧t.argB=true∧P.readableRec i=true∧i<P.types.size∧tysB P ts is=true:=by simp only[tysB,yyc,yyq] at h;exact⟨o9 h.1.1.1,h.1.1.2,h.1.2.1,h.1.2.2,h.2⟩
def z96{ρ:Env}{b0:Nat}:∀ {ts:List Ty} {is:List TypeId} {vs:List Value} {ds:List (DataW H)} {ps:List MemPlace},tysB P ts is=true→(∀ (j:Nat) t v,is[j]?=some t→vs[j]?=some v→Value.okWide P w .any base t v) →
  DataW.TrodAll enc P w b0 spare held is vs ds ps→∃ ys:Dat ts,ys.av.rvs (fun b=>w.heap[b]?) ρ vs∧ys.fit
 |[],[],vs,ds,ps,_,_,h=>by
  cases vs with
  |nil=>exact⟨(),by simp only[Dat.av,AV.rvs],trivial⟩
  |cons v vs=>cases ds<;>simp[DataW.TrodAll] at h
 |t::ts,i::is,vs,ds,ps,hb,hv,h=>by
  obtain⟨h1,h2,_,_,h5⟩:=q6p hb;cases vs with
  |nil=>cases ds<;>simp[DataW.TrodAll] at h
  |cons v vs=>
   cases ds with
   |nil=>simp[DataW.TrodAll] at h
   |cons d ds=>obtain⟨p,q,h6,h7,_⟩:=h;obtain⟨y,hy,hd⟩:=arg_rv (ρ:=ρ) h1 h2 (hv 0 i v rfl rfl) h6;obtain⟨ys,he,ha⟩:=z96 (ρ:=ρ) h5 (fun j t v hj hg=>hv (j+1) t v (by simpa using hj) (by simpa using hg)) h7;exact⟨(y,ys),by simp only[Dat.av,AV.rvs];exact⟨v,vs,hy,he,rfl⟩,hd,ha⟩
 |[],_::_,_,_,_,hb,_,_=>by simp[tysB] at hb
 |_::_,[],_,_,_,hb,_,_=>by simp[tysB] at hb
def Dat.bd:∀ {ts:List Ty} (ys:Dat ts) (n:Nat),ys.av.bd n
 |[],_,_=>trivial
 |_::_,x,n=>⟨trivial,Dat.bd x.2 n⟩
def q8e{W W':World}(hl:laidOutB P=true)(ha:Below W.heap.size W W'){sp:Nat→Bool}:∀ {ts:List Ty} {is:List TypeId} {vs:List Value} {ds:List (DataW H)} {ps:List MemPlace},tysB P ts is=true →
  DataW.TrodAll enc P W 0 (fun _=>true) true is vs ds ps→(∀ p∈ps,p.block<W.heap.size)→(∀ p∈ps,sp p.block=true)→DataW.TrodAll enc P W' 0 sp true is vs ds ps
 |[],[],vs,ds,ps,_,h,_,_=>by cases vs<;>cases ds<;>simp_all[DataW.TrodAll]
 |t::ts,i::is,vs,ds,ps,hb,h,hd,he=>by
  obtain⟨_,_,h3,h4,h5⟩:=q6p hb;cases vs with
  |nil=>cases ds<;>simp[DataW.TrodAll] at h
  |cons v vs=>
   cases ds with
   |nil=>simp[DataW.TrodAll] at h
   |cons d ds=>obtain⟨p,q,h6,h7,rfl⟩:=h;refine⟨p,q,WideElems.Trod_stays hl h3 h4 h6 (fun x hx=>ha.same (hd x (yxw _ hx))) (fun x hx=>he x (yxw _ hx)),?_,rfl⟩;exact q8e hl ha h5 h7 (fun x hx=>hd x (List.mem_append_right _ hx)) (fun x hx=>he x (List.mem_append_right _ hx))
 |[],_::_,_,_,_,hb,_,_,_=>by simp[tysB] at hb
 |_::_,[],_,_,_,hb,_,_,_=>by simp[tysB] at hb
def z5f{Z:Mem→Prop}{fn:Func}{s:ChangeSpec}{W:World}{args:Array Value}{ds gs:List (DataW H)}{before:List MemPlace}{fresh ha:Bool}
  (hz:Z (fun b=>W.heap[b]?)) (hfn:∀ ys:Dat ts,ys.fit→FnL Z P f ys.av (·=.val .bool true)) (hh:tysB P ts fn.params.toList=true) (hl:laidOutB P=true) (hd:s.vars=[])
  (he:∀ ds:List (DataW H),ds.length=ts.length→(s.fn H ds).results=[.lit (.bool true)]∧(s.fn H ds).args=ds∧(s.fn H ds).vars=[]) {rt:TypeId} (hk:fn.resultTypes=#[rt]) (hD:P.underlying rt=some .bool)
  (hp:∀ (j:Nat) t v,fn.params[j]?=some t→args[j]?=some v→Value.okWide P W .any base t v) (hW:DataW.Whole enc P fn.params.toList s.vars false W args.toList ds gs before) :
  Calls P f args W fun e W'=>∃ v,e=.returned v∧s.post enc P fn false fresh ha false W args v W':=by
 have hr:=hW;obtain⟨p,q,hA,hV,rfl,hK,_⟩:=hW;rw[hd] at hV;obtain⟨rfl,rfl⟩:=trodVars_none hV;rw[yxb] at hr;obtain⟨ys,hE,hu⟩:=z96 (ρ:=⟨fun _=>0,fun _=>.nil,fun _=>Go.undef⟩) hh (fun j t v hj hv=>hp j t v (by simpa using hj) (by simpa using hv)) hA;have hw:∀ {ts:List Ty} {is:List TypeId} {vs:List Value} {ds:List (DataW H)} {ps:List MemPlace},tysB P ts is=true→DataW.TrodAll enc P W 0 (fun _=>true) true is vs ds ps→ds.length=ts.length:=by
  intro ts;induction ts with
  |nil=>intro is vs ds ps hb h;cases is<;>cases vs<;>cases ds<;>simp_all[DataW.TrodAll,tysB]
  |cons t ts ih=>
   intro is vs ds ps hb h;cases is with
   |nil=>simp[tysB] at hb
   |cons i is=>
    cases vs<;>cases ds<;>try (simp[DataW.TrodAll] at h;done)
    obtain⟨p,q,_,h7,_⟩:=h;simp[ih (q6p hb).2.2.2.2 h7]
 have hF:=hw hh hA;have hg:=(hfn ys hu).run (fun b=>W.heap[b]?) ⟨fun _=>0,fun _=>.nil,fun _=>Go.undef⟩ W args.toList hz (fun _ _ h=>h) hE (Dat.bd ys 0);rw[Array.toArray_toList] at hg;refine hg.mono fun e W'=>?_;rintro⟨v,r,M',rfl,rfl,_,hy,hB,_⟩;rw[m6] at hy;subst hy;obtain⟨hG,hH,hJ⟩:=he ds hF;have hC:=fun x hx=>hr.lt x hx;refine⟨_,rfl,ds,[],p,[],p,[],hr,?_,?_,?_,World.keptBut_mono (fun x hx=>⟨hx,.inr (.inl hx)⟩) (hB.frame (·∈p)),fun h=>by cases h⟩
 ·rw[yxb,hG,hk];exact trodAll_cons_mk (shut_bool hD _) trodAll_mk0
 ·rw[yxb,hH];exact q8e hl hB hh hA hC fun x hx=>by simpa using hC x hx
 ·rw[yxb,hJ,hd];rfl
end
end Ox
namespace Ox
open Go Go.RowKit
noncomputable section
def q86{P:Program}{w:World}{name:String}{k:IntKind}{xs:List Int}{g:Nat}{t e:TypeId}(hg:P.globalNamed name=some g)(ht:(P.globals[g]?).map (·.type)=some t)(hu:P.underlying t=some (.array xs.length e))(he:P.underlying e=some (.int k))(hc:P.cellsOf e=1) :
  ∀ {laid:List (String×DataW Unit)} {ps:List MemPlace},DataW.LaidVars P w laid ps→(name,DataW.agg (xs.map fun z=>DataW.lit (.int k z)))∈laid →
  ∃ (cs:Array Value) (ty:TypeId) (fz:Nat×Nat),w.heap[g]?=some (.cells cs ty fz)∧xs.length≤cs.size∧∀ i,i<xs.length→cs[i]?=some (.int k (xs.getD i 0))
 |[],_,_,hm=>absurd hm yxe
 |(n,d)::r,ps,h,hm=>by
  obtain⟨g',t',cs,fuel,p,q,h1,h2,h3,h4,h5,_⟩:=h;rcases yym.1 hm with hm|hm
  ·injection hm with e1 e2
   subst e1;subst e2;obtain rfl:=Option.some.inj (hg.symm.trans h1);obtain rfl:=Option.some.inj (ht.symm.trans h2);obtain⟨ys,m,_,hx,hl,hp,ha⟩:=DataW.trod_array hu h4;have hy:ys.map (·.1)=xs.map fun z=>DataW.lit (.int k z):=by
    injection hx with hx _
    injection hx with hx
    exact hx.symm
   have hb:∃ ty fz,w.heap[g]?=some (.cells cs ty fz):=by
    unfold World.var? at h3;rw[hg] at h3;simp only[Option.bind_some] at h3;split at h3
    ·rename_i cs' ty fz hh;injection h3 with h3
     exact⟨ty,fz,by rw[hh,h3]⟩
    ·cases h3
   obtain⟨ty,fz,hh⟩:=hb;have key:∀ i,i<xs.length→cs[i]?=some (.int k (xs.getD i 0)):=fun i hi=>by
    have h6:=ha i hi;rw[hc,Nat.mul_one] at h6;have hj:i<ys.length:=by rw[hp];exact hi
    rw[yyv hj] at h6;obtain⟨z,h7,h8,_⟩:=DataW.trod_int he h6;have h9:(ys[i]).1=DataW.lit (.int k (xs.getD i 0)):=by have:=congrArg (fun l=>l[i]?) hy;simp only[List.getElem?_map,yyv hj,yyv hi,yxt,yya] at this;rw[this,yyp,yyv hi];rfl
    rw[h8] at h9;injection h9 with h9
    injection h9 with _ h9
    subst h9;have hk:i<cs.toList.length:=by refine Nat.lt_of_not_le fun hd=>?_;rw[List.drop_of_length_le hd] at h7;cases h7
    rw[yy4 hk] at h7;injection h7 with h7 _
    rw[← yxz,yyv hk,h7]
   refine⟨cs,ty,fz,hh,?_,key⟩;refine Nat.le_of_not_lt fun hd=>?_;have:=key cs.size hd;simp at this
  ·exact q86 hg ht hu he hc h5 hm
end
end Ox
namespace Ox
open Go Go.RowKit Ox.Rn
variable {X:Ctx}{M:Mem}{ρ:Env}{a:Act}{w w':World}{QA:Exit→S→Prop}{all l:List Oper}{L:List (Nat×AV)}{H:List (Nat×HO)}{nx d:Nat}{ty:TypeId}{ps:String}{af:Array Edge}{s:S}{o:Oper}{md:Bool}
variable{gs:List Gt}
def z2t{M N:Mem}(h:Laid gs M)(k:∀ b o,M b=some o→N b=some o):Laid gs N:=fun q hq=>by obtain⟨cs,ty,fz,e1,e2⟩:=h q hq;exact⟨cs,ty,fz,k _ _ e1,e2⟩
variable{r args:AV}
def z00(h:callA X.T o.op s=some (cs,f,.anil))(hf:FnZ (Laid gs) X.P f r.toV)(hz:Laid gs X.M0)(hc:allP cs)(h1:SAT X M ρ s w)(h2:REG X M ρ s a)(hw:Below w.heap.size w w1) :
  ∃ az,(execOp a.eval o).run X.P w1=.ok (.enter f az) w1∧Calls X.P f az w1 (fun e w'=>e=.returned r.toV∧Below w.heap.size w w'):=by
 obtain⟨hb,vs,hd,ha⟩:=s8 h1 (q6c h1) h2 h hc;simp only[AV.rvs] at hd;subst hd;refine⟨#[],by rw[ha,hf.call],(hf.run _ w1 (z2t hz fun b o e=>h1.mem b o (h1.msub b o e)) (q8t hw)).mono ?_⟩;rintro e w' ⟨rfl,he⟩;exact⟨rfl,hw.trans (he.mono hw.size)⟩
def JL.callZ(hg:o.guard=none)(h:callA X.T o.op s=some (cs,f,.anil))(hf:FnZ (Laid gs) X.P f r.toV)(hz:Laid gs X.M0)(hr:r.scal=true)(ha:r.bd 0)(hd:dstOk X.n o.dst)(hc:allP cs)
  (k:JL X true all QA l (putS o.dst r s)):JL X true all QA (o::l) s:=by
 intro M ρ a w h1 h2;obtain⟨az,e1,e2⟩:=z00 h hf hz hc h1 h2 (Below.refl w.heap.size w);refine z9 (k7 hg) (x9 (q0z h) e1 e2 ?_);rintro e w' ⟨rfl,hb⟩;exact⟨_,rfl,k M ρ _ w' (z7 (h1.later hb)) (h2.putO hd.spec (z8 (yyw _) ha) ((y4 hr).2 rfl))⟩
def j0p(hg:gOf all s.L o.guard=some g)(ha:g=true)(h:callA X.T o.op s=some (cs,f,.anil))(hf:FnZ (Laid gs) X.P f r.toV)(hz:Laid gs X.M0)(hr:r.scal=true)(hb:r.bd 0)(hd:dstOk X.n o.dst)(hc:allP cs)
  (k:JL X true all QA l (putS o.dst r s)):JL X true all QA (o::l) s:=by
 subst ha;intro M ρ a w h1 h2;have hw:=p7 hg h2;obtain⟨az,e1,e2⟩:=z00 h hf hz hc h1 h2 (Below.refl w.heap.size w);refine z9 hw (x9 (q0z h) e1 e2 ?_);rintro e w' ⟨rfl,he⟩;exact⟨_,rfl,k M ρ _ w' (z7 (h1.later he)) (h2.putO hd.spec (z8 (yyw _) hb) ((y4 hr).2 rfl))⟩
variable {op:Op}
def JK.callZ{fr:List Fr}{gs:List Gt}{cs:List Prop}{f:FuncId}{b:Bool}(h:callA X.T op ⟨L,H,nx⟩=some (cs,f,.anil))(hf:FnZ (Laid gs) X.P f (.bool b))(hz:Laid gs X.M0)(hd:ltB d X.n=true)(hc:allP cs)
  (k:JK X (.ops true all l::fr) QA ⟨(d,(.val .bool b))::L,H,nx⟩):JK X (.ops true all (⟨some d,op,ty,ps,af,none⟩::l)::fr) QA ⟨L,H,nx⟩:=
 JL.callZ (r:=(.val .bool b)) rfl h hf hz rfl trivial (v6 hd) hc k
def z1j{fr:List Fr}{b:Bool}(hg:gOf all L (some gg)=some g)(ha:g=true)(h:callA X.T op ⟨L,H,nx⟩=some (cs,f,.anil))(hf:FnZ (Laid gs) X.P f (.bool b))(hz:Laid gs X.M0)(hd:ltB d X.n=true)(hc:allP cs)
  (k:JK X (.ops true all l::fr) QA ⟨(d,(.val .bool b))::L,H,nx⟩):JK X (.ops true all (⟨some d,op,ty,ps,af,some gg⟩::l)::fr) QA ⟨L,H,nx⟩:=
 j0p (r:=(.val .bool b)) (s:=⟨L,H,nx⟩) hg ha h hf hz rfl trivial (v6 hd) hc k
def LaidW(gs:List Gt)(w:World):Prop:=Laid gs fun b=>w.heap[b]?
def LaidW.later{E w:World}(h:LaidW gs E)(hb:Below E.heap.size E w):LaidW gs w:=z2t h fun b o e=>by show w.heap[b]?=some o;rw[hb.block b (yyj.1 e).1];exact e
abbrev FnE(gs:List Gt):=FnX fun _ w=>LaidW gs w
variable{R:AV→Prop}
def FnE.toL(h:FnE gs P f args R):FnL (Laid gs) P f args R:=⟨h.call,fun M ρ w vs hz hM=>h.run M ρ w vs (z2t hz hM) hM⟩
def z01(hz:LaidW gs X.E)(h:callA X.T o.op s=some (cs,f,args))(hf:FnE gs X.P f args (·=r))(hr:r.scal=true)(hc:allP cs)(h1:SAT X M ρ s w)(h2:REG X M ρ s a)(hw:Below w.heap.size w w1) :
  ∃ az,(execOp a.eval o).run X.P w1=.ok (.enter f az) w1∧Calls X.P f az w1 (fun e w'=>e=.returned r.toV∧Below w.heap.size w w'):=by
 obtain⟨hb,vs,hd,ha⟩:=s8 h1 (q6c h1) h2 h hc;refine⟨vs.toArray,by rw[ha,hf.call],(hf.run _ ρ w1 vs ((hz.later h1.below).later hw) (q8t hw) hd hb).mono ?_⟩;rintro e w' ⟨v,r',M',rfl,rfl,_,hv,he,_⟩;exact⟨by rw[(y4 hr).1 hv],hw.trans (he.mono hw.size)⟩
def j0q(hz:LaidW gs X.E)(hg:o.guard=none)(h:callA X.T o.op s=some (cs,f,args))(hf:FnE gs X.P f args (·=r))(hr:r.scal=true)(ha:r.bd 0)(hd:dstOk X.n o.dst)(hc:allP cs)
  (k:JL X md all QA l (putS o.dst r s)):JL X md all QA (o::l) s:=by
 cases md
 ·intro M ρ a w0 h1 h2;simp only[wpQuiet,Region.wanted,hg,if_true];refine⟨r.toV,fun w hw=>?_,k M ρ _ w0 (z7 h1) (h2.putO hd.spec (z8 (yyw _) ha) ((y4 hr).2 rfl))⟩;obtain⟨az,e1,e2⟩:=z01 hz h hf hr hc h1 h2 hw;unfold Oper.quietAt;rw[e1];exact⟨rfl,e2⟩
 ·intro M ρ a w h1 h2;obtain⟨az,e1,e2⟩:=z01 hz h hf hr hc h1 h2 (Below.refl w.heap.size w);refine z9 (k7 hg) (x9 (q0z h) e1 e2 ?_);rintro e w' ⟨rfl,hb⟩;exact⟨_,rfl,k M ρ _ w' (z7 (h1.later hb)) (h2.putO hd.spec (z8 (yyw _) ha) ((y4 hr).2 rfl))⟩
def z4r(hz:LaidW gs X.E)(hg:o.guard=none)(h:callA X.T o.op ⟨s.L,[],s.nx⟩=some (cs,f,args))(hf:FnE gs X.P f args R)(hd:dstOk X.n o.dst)(hc:allP cs)
  (k:∀ r,R r→JL X true all QA l (putS o.dst r s)):JL X true all QA (o::l) s:=by
 intro M ρ a w h1 h2;have hh:SAT X M ρ ⟨s.L,[],s.nx⟩ w:=⟨h1.below,h1.msub,h1.mnew,h1.mem,fun l o h=>by simp[lk] at h,fun l l' o o' b h=>by simp[lk] at h,fun l o b h=>by simp[lk] at h⟩;have hj:REG X M ρ ⟨s.L,[],s.nx⟩ a:=⟨h2.size,h2.defers,h2.reg⟩;obtain⟨hb,vs,hk,he⟩:=s8 hh (Mx:=M) ⟨Mem.le_refl M,fun l o b h=>by simp[lk] at h⟩ hj h hc;refine z9 (k7 hg) (x9 (q0z h) (by rw[he,hf.call]) (hf.run M ρ w vs (hz.later h1.below) h1.mem hk hb) ?_);rintro e w' ⟨v,r,M',rfl,hR,hl,hv,hp,hm,hr,ha⟩;have h3:=h1.ext hp hm hr ha;have h4:REG X M' ρ s a:=h2.grow hm (Env.upTo.refl ρ s.nx) (yyo _) fun D hD=>by rw[ha D (yyj.1 (h1.mem _ _ hD)).1];exact hD
 exact⟨_,rfl,k r hR M' ρ _ w' (z7 h3) (h4.putO hd.spec (z8 (yyw _) hl) hv)⟩
def z5m(h:callA X.T o.op s=some (cs,f,.anil))(hf:FnZ (Laid gs) X.P f r.toV)(hz:LaidW gs X.E)(hc:allP cs)(h1:SAT X M ρ s w)(h2:REG X M ρ s a)(hw:Below w.heap.size w w1) :
  ∃ az,(execOp a.eval o).run X.P w1=.ok (.enter f az) w1∧Calls X.P f az w1 (fun e w'=>e=.returned r.toV∧Below w.heap.size w w'):=by
 obtain⟨hb,vs,hd,ha⟩:=s8 h1 (q6c h1) h2 h hc;simp only[AV.rvs] at hd;subst hd;refine⟨#[],by rw[ha,hf.call],(hf.run (fun b=>w1.heap[b]?) w1 ((hz.later h1.below).later hw) (fun b o e=>e)).mono ?_⟩;rintro e w' ⟨rfl,he⟩;exact⟨rfl,hw.trans (he.mono hw.size)⟩
def z1f{g:Option Bool}(hg:match g with|none=>o.guard=none|some g=>gOf all s.L o.guard=some g∧g=true)(h:callA X.T o.op s=some (cs,f,.anil))(hf:FnZ (Laid gs) X.P f r.toV)(hz:LaidW gs X.E)(hr:r.scal=true)(ha:r.bd 0)(hd:dstOk X.n o.dst)(hc:allP cs)
  (k:JL X true all QA l (putS o.dst r s)):JL X true all QA (o::l) s:=by
 intro M ρ a w h1 h2;have hw:Region.wanted o (yielded all.toArray a.tmps)=true:=by
  cases g with
  |none=>exact k7 hg
  |some g=>obtain⟨hg,rfl⟩:=hg;exact p7 hg h2
 obtain⟨az,e1,e2⟩:=z5m h hf hz hc h1 h2 (Below.refl w.heap.size w);refine z9 hw (x9 (q0z h) e1 e2 ?_);rintro e w' ⟨rfl,hb⟩;exact⟨_,rfl,k M ρ _ w' (z7 (h1.later hb)) (h2.putO hd.spec (z8 (yyw _) ha) ((y4 hr).2 rfl))⟩
section
variable {op:Op}{L:List (Nat×AV)}{H:List (Nat×HO)}{nx d:Nat}{ty:TypeId}{ps:String}{af:Array Edge}{fr:List Fr}
variable{gs:List Gt}{args:AV}
def JK.scE(hz:LaidW gs X.E)(h:callA X.T op ⟨L,H,nx⟩=some (cs,f,args))(hf:FnE gs X.P f args (·=r))(hr:r.scal=true)(hd:ltB d X.n=true)(hc:allP cs)(k:JK X (.ops md all l::fr) QA ⟨(d,r)::L,H,nx⟩) :
  JK X (.ops md all (⟨some d,op,ty,ps,af,none⟩::l)::fr) QA ⟨L,H,nx⟩:=j0q (s:=⟨L,H,nx⟩) hz rfl h hf hr (q3h hr) (v6 hd) hc k
def JK.ceE(hz:LaidW gs X.E)(h:callA X.T op ⟨L,[],nx⟩=some (cs,f,args))(hf:FnE gs X.P f args (·=r))(hd:ltB d X.n=true)(hc:allP cs)(k:JK X (.ops true all l::fr) QA ⟨(d,r)::L,H,nx⟩) :
  JK X (.ops true all (⟨some d,op,ty,ps,af,none⟩::l)::fr) QA ⟨L,H,nx⟩:=z4r (s:=⟨L,H,nx⟩) hz rfl h hf (v6 hd) hc fun _ e=>e▸k
variable{b:Bool}
def z1k(h:callA X.T op ⟨L,H,nx⟩=some (cs,f,.anil))(hf:FnZ (Laid gs) X.P f (.bool b))(hz:LaidW gs X.E)(hd:ltB d X.n=true)(hc:allP cs)
  (k:JK X (.ops true all l::fr) QA ⟨(d,(.val .bool b))::L,H,nx⟩):JK X (.ops true all (⟨some d,op,ty,ps,af,none⟩::l)::fr) QA ⟨L,H,nx⟩:=
 z1f (g:=none) (r:=(.val .bool b)) (s:=⟨L,H,nx⟩) rfl h hf hz rfl trivial (v6 hd) hc k
def z5u(hg:gOf all L (some gg)=some g)(ha:g=true)(h:callA X.T op ⟨L,H,nx⟩=some (cs,f,.anil))(hf:FnZ (Laid gs) X.P f (.bool b))(hz:LaidW gs X.E)(hd:ltB d X.n=true)(hc:allP cs)
  (k:JK X (.ops true all l::fr) QA ⟨(d,(.val .bool b))::L,H,nx⟩):JK X (.ops true all (⟨some d,op,ty,ps,af,some gg⟩::l)::fr) QA ⟨L,H,nx⟩:=
 z1f (g:=some g) (r:=(.val .bool b)) (s:=⟨L,H,nx⟩) ⟨hg,ha⟩ h hf hz rfl trivial (v6 hd) hc k
end
variable {d2:Nat}{ty2:TypeId}{ps2:String}{af2:Array Edge}{rr:List Fr}
def JK.negW{m:Int}(hu:opd L x=some (c1,.val (.int k) m))(hc:allP c1)(hd:ltB d X.n=true)(kk:JK X (.ops md all l::rr) QA ⟨(d,.val (.int k) (k.wrap (0-m)))::L,H,nx⟩) :
  JK X (.ops md all (⟨some d,.unOp .neg t x,ty,ps,af,none⟩::l)::rr) QA ⟨L,H,nx⟩:=by
 refine JL.vq (o:=⟨some d,.unOp .neg t x,ty,ps,af,none⟩) (s:=⟨L,H,nx⟩) (v:=.val (.int k) (k.wrap (0-m))) rfl rfl (v6 hd) trivial (fun M ρ a w h1 h2=>?_) kk;have e:=(q9 (s:=⟨L,H,nx⟩) hu hc h2).2;rw[w5] at e;refine⟨.int k (k.wrap (0-m)),by rw[w5],fun w1=>?_⟩;simp only[execOp,e];rfl
def JL.mulW{t t':TypeId}{x y:Operand}{u v:Int}(hu:opd L x=some (c1,.val (.int k) u))(hv:opd L y=some (c2,.val (.int k) v))(h1:allP c1)(h2:allP c2)(hd:ltB d X.n=true)
  (kk:JL X true all QA l ⟨(d,.val (.int k) (k.wrap (u*v)))::L,H,nx⟩):JL X true all QA (⟨some d,.binOp .mul t x y t',ty,ps,af,none⟩::l) ⟨L,H,nx⟩:=by
 refine q7p rfl rfl (v6 hd) (v:=.val (.int k) (k.wrap (u*v))) (s':=⟨L,H,nx⟩) (fun M ρ a w k1 k2=>?_) kk;have e1:=(q9 (s:=⟨L,H,nx⟩) hu h1 k2).2;have e2:=(q9 (s:=⟨L,H,nx⟩) hv h2 k2).2;rw[w5] at e1 e2;refine⟨ρ,w,.value (.int k (k.wrap (u*v))),?_,Env.upTo.refl _ _,yyo _,rfl,k1,trivial,.inl ⟨_,rfl,w5.2 rfl⟩⟩;simp only[execOp,e1,e2,yye,g6,yyb,binOp,if_neg (fun h:k≠k=>h rfl)];rfl
def JK.mulW{t t':TypeId}{x y:Operand}{c1 c2:List Prop}{k:IntKind}{u v:Int}(hu:opd L x=some (c1,.val (.int k) u))(hv:opd L y=some (c2,.val (.int k) v))(h1:allP c1)(h2:allP c2)(hd:ltB d X.n=true)
  (kk:JK X (.ops true all l::rr) QA ⟨(d,.val (.int k) (k.wrap (u*v)))::L,H,nx⟩):JK X (.ops true all (⟨some d,.binOp .mul t x y t',ty,ps,af,none⟩::l)::rr) QA ⟨L,H,nx⟩:=JL.mulW hu hv h1 h2 hd kk
def JL.ldG{g:Nat}{e0:TypeId}{k kk':IntKind}{xs:List Int}{t te:TypeId}{i:Operand}(hX:XOK X)(hz:LaidW gs X.E)(hm:(g,e0,k,xs)∈gs)(hT:lk X.T t=some (.arr xs.length (.int k)))(hj:lk X.T te=some (.int k))
  (hi:opd L i=some (c2,.val (.int kk') v)) (hk:allP c2) (h0:0≤v) (hn:v.toNat<xs.length) (hd:ltB d X.n=true) (hl:ltB d2 X.n=true) (kk:JL X true all QA l ⟨(d2,.val (.int k) (xs.getD v.toNat 0))::del L d,H,nx⟩) :
  JL X true all QA (⟨some d,.indexAddr t (.global g) i,ty,ps,af,none⟩::⟨some d2,.load te (.tmp d),ty2,ps2,af2,none⟩::l) ⟨L,H,nx⟩:=by
 intro M ρ a w h1 h2;obtain⟨cs,cty,fz,e3,e4,e5⟩:=hz.later h1.below _ hm;simp only at e3 e4 e5;have ei:=(q9 (s:=⟨L,H,nx⟩) hi hk h2).2;rw[w5] at ei;have ht:=hX.t _ _ hT;have hp:=hX.t _ _ hj;have hr:(execOp a.eval ⟨some d,.indexAddr t (.global g) i,ty,ps,af,none⟩).run X.P w=.ok (.value (.pointer (some ⟨g,v.toNat,none⟩))) w:=by have:=q0q (P:=X.P) ht (kk:=kk') (k:=v) (b:=g) (off:=0) h0 (by omega) w;have eg:a.eval (.global g)=.pointer (some ⟨g,0,none⟩):=rfl;simp only[execOp,eg,ei,yye,this,yyb,yyf];simp[Ty.size]
 have hg:REG X M ρ ⟨del L d,H,nx⟩ (a.put (some d) (.pointer (some ⟨g,v.toNat,none⟩))):=⟨by simp[Act.put,h2.size],h2.defers,fun e y he=>by
  obtain⟨q1,q2⟩:=q4u he;have:=h2.reg e y q2;refine⟨this.1,?_⟩;have q3:((a.put (some d) (.pointer (some ⟨g,v.toNat,none⟩))).tmps.getD e Go.undef)=a.tmps.getD e Go.undef:=by simp only[Act.put,yyy];rw[yx6 (Ne.symm q1)]
  rw[q3];exact this.2⟩
 have hu:(a.put (some d) (.pointer (some ⟨g,v.toNat,none⟩))).eval (.tmp d)=.pointer (some ⟨g,v.toNat,none⟩):=by simp only[Act.eval,Act.put,yyy];rw[yx7 (by rw[h2.size];exact v6 hd)];rfl
 have hh:v.toNat<cs.size:=by omega
 have ha:=f8 (P:=X.P) hp e3 (off:=v.toNat) (by simp only[Ty.size];omega);have hb:(cs.toList.drop v.toNat).take (Ty.size (.int k))=[Value.int k (xs.getD v.toNat 0)]:=by have h6:=e5 v.toNat hn;rw[← yxz,yyv (by simpa using hh)] at h6;rw[yy4 (by simpa using hh),Option.some.inj h6];rfl
 rw[hb] at ha;have hv:(execOp (a.put (some d) (.pointer (some ⟨g,v.toNat,none⟩))).eval ⟨some d2,.load te (.tmp d),ty2,ps2,af2,none⟩).run X.P w=.ok (.value (.int k (xs.getD v.toNat 0))) w:=by simp only[execOp,hu,Instr.loadAt,Instr.sureAddr,yye,yyf,yyb,ha];rfl
 refine z9 (k7 rfl) (w8 rfl hr (z9 (k7 rfl) (w8 rfl hv ?_)));exact kk M ρ _ w (h1.regs _) (hg.putO (d:=some d2) (dstOk.spec (v6 hl)) trivial (w5.2 rfl))
def JK.ldG{gs:List Gt}{g:Nat}{e0:TypeId}{k kk':IntKind}{xs:List Int}{t te:TypeId}{i:Operand}{c2:List Prop}{v:Int}(hX:XOK X)(hz:LaidW gs X.E)(hm:(g,e0,k,xs)∈gs)(hT:lk X.T t=some (.arr xs.length (.int k)))(ha:lk X.T te=some (.int k))
  (hi:opd L i=some (c2,.val (.int kk') v)) (hb:allP c2) (h0:0≤v) (hn:v.toNat<xs.length) (hd:ltB d X.n=true) (he:ltB d2 X.n=true) (kk:JK X (.ops true all l::rr) QA ⟨(d2,.val (.int k) (xs.getD v.toNat 0))::del L d,H,nx⟩) :
  JK X (.ops true all (⟨some d,.indexAddr t (.global g) i,ty,ps,af,none⟩::⟨some d2,.load te (.tmp d),ty2,ps2,af2,none⟩::l)::rr) QA ⟨L,H,nx⟩:=JL.ldG hX hz hm hT ha hi hb h0 hn hd he kk
end Ox
namespace Ox.Gl
def twB(b:Nat):List Nat:=(List.range 12).filter fun i=>b.testBit i
def lwB(b:Nat):Nat:=(twB b).headD 0
def tw_all:((List.range 4096).all fun b=>b==0||(twB b==lwB b::twB (b &&& (b-1))&&decide (lwB b<12)&&decide (b &&& (b-1)<b)&&decide (b &&& (b-1)<4096)))=true:=by decide +kernel
def z55(h0:b≠0)(h:b<4096):twB b=lwB b::twB (b &&& (b-1))∧lwB b<12∧b &&& (b-1)<b∧b &&& (b-1)<4096:=by
 have:=yyz.1 tw_all b (yyr.2 h);simp only[yyu,yyc,beq_iff_eq,yyq] at this;rcases this with k|⟨⟨⟨k1,k2⟩,k3⟩,k4⟩
 ·exact absurd k h0
 ·exact⟨k1,k2,k3,k4⟩
def z56:i∈twB b↔i<12∧b.testBit i=true:=by unfold twB;rw[yy6,yyr]
def tw_nodup(b:Nat):(twB b).Nodup:=List.Pairwise.filter _ List.nodup_range
def z57(b:Nat):(twB b).length≤12:=by unfold twB;have:=yx5 (fun i=>b.testBit i) (List.range 12);rwa[List.length_range] at this
def tw_zero:twB 0=[]:=by decide
def twI(b:Nat):List Int:=(twB b).map Int.ofNat
def twTo(b i:Nat):List Int:=((List.range i).filter fun i=>b.testBit i).map Int.ofNat
def q9z(b i:Nat):twTo b (i+1)=if b.testBit i=true then twTo b i++[(i:Int)] else twTo b i:=by
 unfold twTo;rw[List.range_succ,List.filter_append,yx0];by_cases h:b.testBit i=true
 ·rw[if_pos h,List.filter_cons_of_pos h];rfl
 ·rw[if_neg h,yx8 h];simp
def twTo_len(b i:Nat):(twTo b i).length≤i:=by unfold twTo;rw[yx4];have:=yx5 (fun i=>b.testBit i) (List.range i);rwa[List.length_range] at this
def z21{b:Nat}(h:b<4096):∀ {k i:Nat},i+k=12→(∀ j,i≤j→b.testBit j=false)→twTo b i=twI b
 |0,i,e,_=>by
  have:i=12:=by omega
  subst this;rfl
 |k+1,i,e,hz=>by rw[← z21 h (k:=k) (i:=i+1) (by omega) (fun j hj=>hz j (by omega)),q9z,if_neg (by rw[hz i (yyo _)];simp)]
def z4y(h:b / 2 ^ i=0):∀ j,i≤j→b.testBit j=false:=fun j hj=>by
 have h1:b<2 ^ i:=by have:=(Nat.div_eq_zero_iff (a:=b) (b:=2 ^ i)).1 h;have hp:0<2 ^ i:=Nat.two_pow_pos i;omega
 exact Nat.testBit_lt_two_pow (yxa h1 (yxo (by decide) hj))
def z6f(h:b<4096)(hd:0<b / 2 ^ i):i<12:=by refine Nat.lt_of_not_le fun hi=>?_;have h1:b<2 ^ i:=yxa h (show 2 ^ 12≤2 ^ i from yxo (by decide) hi);rw[Nat.div_eq_of_lt h1] at hd;exact absurd hd (by decide)
def z71(bt:Nat→Nat)(n m:Nat)(h:m<12):manyM bt (n+1) m=manyM bt n m+(twB (bt n)).count m:=by
 rw[z5a];congr 1;by_cases hb:(bt n).testBit m=true
 ·rw[if_pos hb];have h1:=List.nodup_iff_count.1 (tw_nodup (bt n)) m;have h2:=List.count_pos_iff.2 (z56.2 ⟨h,hb⟩);omega
 ·rw[if_neg hb];exact(List.count_eq_zero.2 fun q=>hb (z56.1 q).2).symm
end Ox.Gl
namespace Go.Proofs.YtjecebccchhmhaaGreatDoor.Cb
open Go Go.RowKit Ox Ox.Gl Ox.Rn
attribute [local irreducible] JC JL JK JW
def tab64:List Int:=[0,1,56,2,57,49,28,3,61,58,42,50,38,29,17,4,62,47,59,36,45,43,51,22,53,39,33,30,24,18,12,5,63,55,48,27,60,41,37,16,46,35,44,21,52,32,23,11,54,26,40,15,34,20,31,10,25,14,19,9,13,8,7,6]
abbrev g64:Gt:=(1,5,.u8,tab64)
def tzI(b:Nat):Int:=IntKind.wrap .u64 ((((((b:Nat):Int)).toNat &&& (IntKind.wrap .u64 (0-(b:Int))).toNat:Nat):Int)*285870213051353865) / 2 ^ (58:Int).toNat
def tz_all:((List.range 4096).all fun b=>b==0||(decide (0≤tzI b∧tzI b<64)&&tab64.getD (tzI b).toNat 0==(lwB b:Int)&&decide (0≤IntKind.wrap .u64 (0-(b:Int))∧IntKind.wrap .u64 (0-(b:Int))≤18446744073709551615)&&decide (0≤IntKind.wrap .u64 ((((((b:Nat):Int)).toNat &&& (IntKind.wrap .u64 (0-(b:Int))).toNat:Nat):Int)*285870213051353865)∧IntKind.wrap .u64 ((((((b:Nat):Int)).toNat &&& (IntKind.wrap .u64 (0-(b:Int))).toNat:Nat):Int)*285870213051353865)≤18446744073709551615)))=true:=by decide +kernel
def tz_one(h0:b≠0)(h:b<4096):(0≤tzI b∧tzI b<64)∧tab64.getD (tzI b).toNat 0=(lwB b:Int)∧(0≤IntKind.wrap .u64 (0-(b:Int))∧IntKind.wrap .u64 (0-(b:Int))≤18446744073709551615)∧(0≤IntKind.wrap .u64 ((((((b:Nat):Int)).toNat &&& (IntKind.wrap .u64 (0-(b:Int))).toNat:Nat):Int)*285870213051353865)∧IntKind.wrap .u64 ((((((b:Nat):Int)).toNat &&& (IntKind.wrap .u64 (0-(b:Int))).toNat:Nat):Int)*285870213051353865)≤18446744073709551615):=by
 have:=yyz.1 tz_all b (yyr.2 h);simp only[yyu,yyc,beq_iff_eq,yyq] at this;rcases this with k|⟨⟨⟨k1,k2⟩,k3⟩,k4⟩
 ·exact absurd k h0
 ·exact⟨k1,k2,k3,k4⟩
variable {gs:List Gt}
set_option maxRecDepth 20000 in
def fn124(hg:g64∈gs)(b:Nat)(h0:b≠0)(h:b<4096):FnE gs Tryz.prog 124 (.acons (.val (.int .u64) (b:Int)) .anil) (·=vI (lwB b:Nat)):=by refine Ox.FnX.intro xok Tryz.func124 rfl Tryz.call124 (yyd rfl) (fun E M0 up hz=>?_);refine JK.start ?_;obtain⟨⟨k1,k2⟩,k3,k4,k5⟩:=tz_one h0 h;have hl:=(z55 h0 h).2.1;refine zK0 ?_;refine z5 rfl (fun hc=>absurd hc (by simp;omega)) (fun _=>?_);unfold tzI at k1 k2 k3;refine zK0 ?_;refine JK.negW rfl trivial rfl ?_;generalize IntKind.wrap .u64 (0-(b:Int))=u at k1 k2 k3 k4 k5 ⊢;refine zK0 ?_;refine JK.mulW rfl rfl trivial trivial rfl ?_;generalize IntKind.wrap .u64 ((((((b:Nat):Int)).toNat &&& u.toNat:Nat):Int)*285870213051353865)=z at k1 k2 k3 k5 ⊢;refine zK0 ?_;refine JK.ldG (gs:=gs) xk hz hg rfl rfl rfl trivial k1 (by show _<64;omega) rfl rfl ?_;rw[k3];refine zK0 ?_;refine zR rfl trivial ?_;rfl
def fn57(hg:g64∈gs)(b:Nat)(h0:b≠0)(h:b<4096):FnE gs Tryz.prog 57 (.acons (.val (.int .u64) (b:Int)) .anil) (·=vI (lwB b:Nat)):=by refine Ox.FnX.intro xok Tryz.func57 rfl Tryz.call57 (yyd rfl) (fun E M0 up hz=>?_);refine JK.start ?_;have c:=fn124 hg b h0 h;refine zK0 ?_;refine z5 rfl (fun hc=>by cases hc) (fun _=>?_);refine zK0 ?_;refine JK.scE (gs:=gs) hz rfl c rfl rfl trivial ?_;refine zK0 ?_;refine zR rfl trivial ?_;rfl
def fn27(hg:g64∈gs)(b:Nat)(h:b<4096):FnE gs Tryz.prog 27 (.acons (vS64 b) .anil) (·=vL (twI b)):=by
 refine Ox.FnX.intro xok Tryz.func27 rfl Tryz.call27 (yyd rfl) (fun E M0 up hz=>?_);refine JK.start ?_;refine zK0 ?_;refine JK.ghost 3 3 (.int .i64) rfl ?_;refine JK.loop (σ:=Nat×List Int) (fun q=>⟨[(0,vS64 q.1),(2,.lf .nils),(3,.lf (.osl 0))],[(0,.sl 3 (.int .i64) q.2)],1⟩) (fun q=>q.1<4096∧q.2.length≤12∧q.2++twI q.1=twI b) (fun q=>q.1) (b,[]) ⟨h,by simp,rfl⟩ (by exact zJ) fun⟨x,out⟩ ⟨hx,hl,ho⟩=>?_;dsimp only at hx hl ho ⊢;have hb:(twI b).length≤12:=by unfold twI;rw[yx4];exact z57 b
 refine zK0 ?_;refine z5 rfl (fun hc=>?_) (fun hc=>?_)
 ·have ha:x≠0:=fun e=>by subst e;simp at hc
  clear hc;obtain⟨t1,t2,t3,t4⟩:=z55 ha hx;have c57:=fn57 hg x ha hx;have he:(1:Int)≤(x:Int):=by omega
  have hh:out.length+1≤12:=by have:=congrArg List.length ho;rw[yyx] at this;unfold twI at this;rw[t1] at this;simp only[yy2,List.length_cons] at this;have hd:=hb;unfold twI at hd;omega
  refine zK0 ?_;refine JK.scE (gs:=gs) hz rfl c57 rfl rfl trivial ?_;refine zK0 ?_;refine⟨(x &&& (x-1),out++[((lwB x:Nat):Int)]),?_,⟨t4,by simp;omega,?_⟩,t3⟩
  ·dsimp only;have e:(((x:Int)).toNat &&& ((x:Int)-1).toNat:Nat)=x &&& (x-1):=by rw[Int.toNat_natCast,show((x:Int)-1).toNat=x-1 by omega]
   rw[← e];exact zJ
  ·dsimp only;rw[yxj,← ho];congr 1;unfold twI;rw[t1];rfl
 ·have ha:x=0:=by
   have:¬ ((x:Int)≠0):=fun h=>by have:=bne_iff_ne.2 h;rw[this] at hc;cases hc
   omega
  subst ha;have:out=twI b:=by rw[← ho];simp[twI,tw_zero]
  rw[this]
  (refine q57 [0] [3] rfl ?_)
  refine zK0 ?_;refine zR rfl trivial ?_;rfl
variable{cs ms:List TwD}
def fn24(hs:okSt cs ms):Ox.Fn Tryz.prog 24 (.acons (.val shT (mkS cs ms)) .anil) (·=.tup (.acons (vBd cs ms) (.acons (vI 0) .anil))):=by
 refine Ox.Fn.intro xok Tryz.func24 rfl Tryz.call24 (yyd rfl) (fun E M0 up=>?_);refine JK.start ?_;have c54:=fn54 hs;have c55:=fn55 hs
 (repeat (first|refine zs rfl ?_|refine zg rfl rfl rfl ?_|refine zd ?_|refine w9 ?_|refine w7 ?_|refine zc rfl (c54) rfl rfl ?_|refine ze rfl (c54) rfl ?_|refine zk rfl rfl (fun _=>c54) rfl rfl ?_))
 refine z5 rfl (fun h=>absurd h (by decide)) (fun _=>?_)
 (repeat (first|refine zs rfl ?_|refine zg rfl rfl rfl ?_|refine zd ?_|refine w9 ?_|refine w7 ?_|refine zc rfl (c55) rfl rfl ?_|refine ze rfl (c55) rfl ?_|refine zk rfl rfl (fun _=>c55) rfl rfl ?_))
 refine zR rfl trivial ?_;rfl
def fn8(hg:g64∈gs)(hs:okSt cs ms)(z:TwD)(hr:0≤z.1∧z.1<cs.length)(h0:mkM cs ms z≠0) :
  FnE gs Tryz.prog 8 (.acons (.val shT (mkS cs ms)) (.acons (vTw z) .anil)) (·=.tup (.acons (vL (twI (mkM cs ms z))) (.acons (vI 0) .anil))):=by
 refine Ox.FnX.intro xok Tryz.func8 rfl Tryz.call8 (yyd rfl) (fun E M0 up hz=>?_);refine JK.start ?_;have c24:=fn24 hs;have c25:=fn25 cs ms z.1;rw[decide_eq_true hr] at c25;have c26:=fn26 hs.tookSh z hr;have ha:=mkM_lt (cs:=cs) hs.m12 z;have c27:=fn27 hg (mkM cs ms z) ha;generalize mkM cs ms z=m at h0 ha c26 c27 ⊢;have hm:((m:Int)==0)=false:=by simpa using h0
 refine zK8 ?_;refine z5 rfl (fun h=>absurd h (by decide)) (fun _=>?_);refine zK8 ?_;refine z5 rfl (fun h=>absurd h (by decide)) (fun _=>?_);refine zK8 ?_;refine z5 rfl (fun h=>absurd (hm.symm.trans h) (by decide)) (fun _=>?_);refine zK0 ?_;refine JK.ceE (gs:=gs) hz rfl c27 rfl trivial ?_;refine zK0 ?_;refine zR rfl trivial ?_;rfl
end Go.Proofs.YtjecebccchhmhaaGreatDoor.Cb
namespace Go.Proofs.YtjecebccchhmhaaGreatDoor.Cb
open Go Go.RowKit Ox Ox.Gl
attribute [local irreducible] JC JL JK JW
def lastB(p:TwD→Bool):List TwD→Nat→Int→Int
 |[],_,d=>d
 |x::r,i,d=>lastB p r (i+1) (if p x=true then(i:Int) else d)
def z3o{at_:Int}:∀ {ms:List TwD} {nx:Int} {i:Nat},okMk ms nx→at_<nx→idxB (inP at_) ms i=-1
 |[],_,_,_,_=>rfl
 |m::r,nx,i,h,hn=>by
  obtain⟨k1,k2,k3,k4,k5⟩:=h;have:inP at_ m=false:=by
   unfold inP;have:¬ m.1≤at_:=by omega
   simp[this]
  rw[idxB,this];exact z3o k5 (by omega)
def z8l{at_:Int}:∀ {ms:List TwD} {nx:Int} {i:Nat} {d:Int},okMk ms nx→lastB (inP at_) ms i d=if idxB (inP at_) ms i=-1 then d else idxB (inP at_) ms i
 |[],_,_,_,_=>rfl
 |m::r,nx,i,d,h=>by
  obtain⟨k1,k2,k3,k4,k5⟩:=h;rw[lastB,idxB,z8l k5];by_cases e:inP at_ m=true
  ·rw[if_pos e,if_pos e];have hm:at_≤m.2.1:=by unfold inP at e;by_cases e1:m.1≤at_<;>by_cases e2:at_≤m.2.1<;>simp[e1,e2] at e ⊢
   rw[if_pos (z3o k5 (by omega)),if_neg (by omega)]
  ·rw[if_neg e,if_neg e]
variable{ms cs:List TwD}
def last_inM(h:okMk ms 0)(at_:Int):lastB (inP at_) ms 0 (-1)=inM ms at_:=by
 rw[z8l h];unfold inM;split
 ·rename_i e;rw[e]
 ·rfl
set_option maxRecDepth 20000 in
set_option maxHeartbeats 2000000 in
def fn20(hs:okSt cs ms)(r:TwD)(hr:0≤r.1∧r.1<cs.length):Ox.Fn Tryz.prog 20 (.acons (.val shT (mkS cs ms)) (.acons (vTw r) .anil)) (·=vI (mkM cs ms r:Nat)):=by
 refine Ox.Fn.intro xok Tryz.func20 rfl Tryz.call20 (yyd rfl) (fun E M0 up=>?_);refine JK.start ?_;have hj:=hs.m12;have h8:=hs.c8;obtain⟨rc,ra,ru⟩:=r;dsimp only at hr;refine zK0 ?_;refine z5 rfl (fun hc=>?_) (fun hc=>?_)
 ·have hk:¬ (0≤ra∧ra≤500):=fun h=>by
   have h1:¬ ra<0:=by omega
   have h2:¬ (500:Int)<ra:=by omega
   simp[h1,h2] at hc
  have:inM ms ra<0:=by refine Int.lt_of_not_ge fun h=>hk (z8s (i:=0) hs.mo h)
  have:mkM cs ms (rc,ra,ru)=0:=if_pos this;rw[this];refine zK0 ?_;refine zR rfl trivial ?_;rfl
 have hk:0≤ra∧ra≤500:=by
  by_cases h1:ra<0
  ·simp[h1] at hc
  ·by_cases h2:(500:Int)<ra
   ·simp[h1,h2] at hc
   ·omega
 clear hc;have hp:=hs.co (cs.getD rc.toNat (0,0,())) (by rw[j4 cs (by omega)];exact yy9 (by omega));have hu:mkM cs ms (rc,ra,ru)=if inM ms ra<0 then 0 else(tth ms ra (cs.getD rc.toNat (0,0,())).1 (cs.getD rc.toNat (0,0,())).2.1.toNat).getD 0:=rfl;rw[hu];clear hu;refine zK0 ?_;have hz:cs.getD rc.toNat twT.dflt=cs.getD rc.toNat (0,0,()):=rfl;rw[hz];generalize cs.getD rc.toNat (0,0,())=c at hp ⊢;obtain⟨sp,te,u⟩:=c;obtain⟨⟨s1,s50⟩,t2,t20⟩:=hp;dsimp only at s1 s50 t2 t20 ⊢;obtain⟨T,rfl⟩:∃ T:Nat,te=(T:Int):=⟨te.toNat,by omega⟩;rw[Int.toNat_natCast];have ha:(if inM ms ra<0 then 0 else(tth ms ra sp T).getD 0)=(tth ms ra sp T).getD 0:=by
  by_cases h:inM ms ra<0
  ·rw[if_pos h];have h1:tth ms ra sp 1=none:=by show(if inM ms (ra+((0:Nat):Int)*sp)<0 then none else _)=none;rw[if_pos (by simpa using h)]
   have:=q6a h1 (T-1);rw[show 1+(T-1)=T by omega] at this;rw[this];rfl
  ·rw[if_neg h]
 rw[ha];clear ha;refine JK.loop (σ:=Nat×Nat) (fun q=>⟨[(2,.lf (.optr 0 [])),(3,.lf (.optr 1 [])),(4,vI 0),(5,.lf (.optr 2 [])),(6,vI (q.2:Int)),(7,vI (q.1:Int))],[(0,.cell shT (.val shT (mkS cs ms))),(1,.cell twT (vTw (rc,ra,ru))),(2,.cell twT (vTw (sp,(T:Int),u)))],3⟩) (fun q=>q.1≤T∧tth ms ra sp q.1=some q.2) (fun q=>T-q.1) (0,0) ⟨yyw _,rfl⟩ (by exact zJ) fun⟨t,o⟩ ⟨ht,hh⟩=>?_;dsimp only at ht hh ⊢;have ho:=z22 hj hh;refine zK0 ?_;refine z5 rfl (fun hc=>?_) (fun hc=>?_)
 ·replace hc:=zC hc;have hA:t<T:=by omega
  have hB:0≤(t:Int)*sp:=Int.mul_nonneg (by omega) (by omega);have hC:(t:Int)*sp≤1000:=by have h1:(t:Int)*sp≤(t:Int)*50:=Int.mul_le_mul_of_nonneg_left s50 (by omega);omega
  have hst:tth ms ra sp (t+1)=if inM ms (ra+(t:Int)*sp)<0 then none else some (o ||| 2 ^ (inM ms (ra+(t:Int)*sp)).toNat):=by show(match tth ms ra sp t with|none=>none|some o=>_)=_;rw[hh]
  have hb:=z8r hj (ra+(t:Int)*sp);have hg:=last_inM hs.mks (ra+(t:Int)*sp);refine zK0 ?_;generalize ra+(t:Int)*sp=at_ at hst hb hg ⊢;refine JK.loop (σ:=Nat×Int) (fun q=>⟨[(2,.lf (.optr 0 [])),(3,.lf (.optr 1 [])),(4,vI 0),(5,.lf (.optr 2 [])),(6,vI (o:Int)),(7,vI (t:Int)),(8,vI at_),(9,vI q.2),(10,vI (q.1:Int))],[(0,.cell shT (.val shT (mkS cs ms))),(1,.cell twT (vTw (rc,ra,ru))),(2,.cell twT (vTw (sp,(T:Int),u)))],3⟩) (fun q=>q.1≤ms.length∧lastB (inP at_) (ms.drop q.1) q.1 q.2=inM ms at_) (fun q=>ms.length-q.1) (0,-1) ⟨yyw _,hg⟩ (by exact zJ) fun⟨i,d⟩ ⟨hi,hl⟩=>?_;dsimp only at hi hl ⊢;refine zK0 ?_;refine z5 rfl (fun hd=>?_) (fun hd=>?_)
  ·replace hd:=zC hd;have hv:i<ms.length:=by omega
   rw[yy4 hv,lastB] at hl;have e:ms.getD (Int.toNat (i:Int)) twT.dflt=ms[i]:=j4 ms hv _;rw[← e] at hl;refine zK0 ?_;refine z5 rfl (fun he=>?_) (fun he=>?_)
   ·have he:inP at_ (ms.getD (Int.toNat (i:Int)) twT.dflt)=true:=he;rw[if_pos he] at hl;refine zK0 ?_;exact⟨(i+1,(i:Int)),by exact zJ,⟨by omega,hl⟩,by dsimp only;omega⟩
   ·have he:inP at_ (ms.getD (Int.toNat (i:Int)) twT.dflt)=false:=he;rw[if_neg (by rw[he];simp)] at hl;refine zK0 ?_;exact⟨(i+1,d),by exact zJ,⟨by omega,hl⟩,by dsimp only;omega⟩
  ·replace hd:=zC hd;have hw:i=ms.length:=by omega
   subst hw;rw[List.drop_length] at hl;have hl:d=inM ms at_:=hl;rw[← hl] at hst hb;refine zK0 ?_;refine z5 rfl (fun he=>?_) (fun he=>?_)
   ·have he:decide (d<0)=true:=he;rw[if_pos (of_decide_eq_true he)] at hst;have:=q6a hst (T-(t+1));rw[show t+1+(T-(t+1))=T by omega] at this;rw[this];refine zK0 ?_;refine zR rfl trivial ?_;rfl
   ·have he:decide (d<0)=false:=he;have he:=of_decide_eq_false he;rw[if_neg he] at hst;have hb:0≤d∧d<12:=by omega
    obtain⟨k,rfl⟩:∃ k:Nat,d=(k:Int):=⟨d.toNat,by omega⟩;rw[Int.toNat_natCast] at hst;have hy:1≤(2:Int) ^ k∧(2:Int) ^ k≤4096:=by
     have h1:2 ^ k≤2 ^ 12:=yxo (by decide) (by omega);have h2:1≤2 ^ k:=Nat.one_le_two_pow;have e:(2:Int) ^ k=((2 ^ k:Nat):Int):=by push_cast;rfl
     rw[e];omega
    have hD:1≤(2:Int) ^ (Int.toNat (k:Int))∧(2:Int) ^ (Int.toNat (k:Int))≤4096:=by rw[Int.toNat_natCast];exact hy
    refine zK0 ?_;refine⟨(t+1,o ||| 2 ^ k),?_,⟨by omega,hst⟩,by dsimp only;omega⟩;dsimp only;have e:((o ||| 2 ^ k:Nat):Int)=((((o:Nat):Int).toNat ||| ((1:Int)*2 ^ (Int.toNat (k:Int))).toNat:Nat):Int):=by rw[Int.toNat_natCast,Int.toNat_natCast,one_pow]
    rw[show vI ((o ||| 2 ^ k:Nat):Int)=AV.val (.int .i64) ((((o:Nat):Int).toNat ||| ((1:Int)*2 ^ (Int.toNat (k:Int))).toNat:Nat):Int) by rw[← e]];exact zJ
 ·replace hc:=zC hc;have:t=T:=by omega
  subst this;rw[hh];refine zK0 ?_;refine zR rfl trivial ?_;rfl
set_option maxRecDepth 20000 in
def fn21(b:Nat)(h:b<4096):Ox.Fn Tryz.prog 21 (.acons (vI (b:Int)) .anil) (·=vL (twI b)):=by
 refine Ox.Fn.intro xok Tryz.func21 rfl Tryz.call21 (yyd rfl) (fun E M0 up=>?_);refine JK.start ?_;refine zK0 ?_;refine JK.ghost 3 3 (.int .i64) rfl ?_;refine JK.loop (fun i:Nat=>⟨[(0,vI (b:Int)),(2,.lf .nils),(3,.lf (.osl 0)),(4,vI (i:Int))],[(0,.sl 3 (.int .i64) (twTo b i))],1⟩) (fun i=>i≤12) (fun i=>12-i) 0 (yyw _) (by exact zJ) fun i hi=>?_;have hq:(b:Int) / 2 ^ (Int.toNat (i:Int))=((b / 2 ^ i:Nat):Int):=by rw[Int.toNat_natCast];push_cast;rfl
 have hj:b / 2 ^ i<4096:=Nat.lt_of_le_of_lt (Nat.div_le_self _ _) h;have hl:=twTo_len b i;have he:=q9z b i;have hh:(((b / 2 ^ i:Nat):Int).toNat &&& ((1:Int)).toNat:Nat)=if b.testBit i=true then 1 else 0:=by
  rw[Int.toNat_natCast,show((1:Int)).toNat=1 from rfl,Nat.testBit_eq_decide_div_mod_eq,Nat.and_one_is_mod];by_cases e:b / 2 ^ i % 2=1
  ·simp[e]
  ·have:b / 2 ^ i % 2=0:=by omega
   simp[this]
 have ha:((((b:Int) / 2 ^ (Int.toNat (i:Int))).toNat &&& ((1:Int)).toNat:Nat):Int)=if b.testBit i=true then 1 else 0:=by rw[hq,hh];split<;>rfl
 refine zK0 ?_;refine z5 rfl (fun hc=>?_) (fun hc=>?_)
 ·have hc:decide ((b:Int) / 2 ^ (Int.toNat (i:Int))>0)=true:=hc;have hg:=of_decide_eq_true hc;rw[hq] at hg;have hk:=z6f h (by omega:0<b / 2 ^ i);clear hc;refine zK0 ?_;refine z5 rfl (fun hd=>?_) (fun hd=>?_)
  ·have hd:(((((b:Int) / 2 ^ (Int.toNat (i:Int))).toNat &&& ((1:Int)).toNat:Nat):Int)==1)=true:=hd;rw[ha] at hd;have hb:b.testBit i=true:=by
    cases hb:b.testBit i with
    |true=>rfl
    |false=>rw[hb] at hd;cases hd
   rw[if_pos hb] at he;clear hd;refine zK0 ?_;refine⟨i+1,?_,by omega,by omega⟩;dsimp only;rw[he];exact zJ
  ·have hd:(((((b:Int) / 2 ^ (Int.toNat (i:Int))).toNat &&& ((1:Int)).toNat:Nat):Int)==1)=false:=hd;rw[ha] at hd;have hb:¬ b.testBit i=true:=fun hb=>by rw[hb] at hd;cases hd
   rw[if_neg hb] at he;clear hd;refine zK0 ?_;refine⟨i+1,?_,by omega,by omega⟩;dsimp only;rw[he];exact zJ
 ·have hc:decide ((b:Int) / 2 ^ (Int.toNat (i:Int))>0)=false:=hc;have hg:=of_decide_eq_false hc;rw[hq] at hg;rw[z21 h (k:=12-i) (by omega) (z4y (Nat.eq_zero_of_le_zero (Nat.le_of_not_lt fun h=>hg (Int.natCast_pos.2 h))))]
  (refine q57 [0] [3] rfl ?_)
  refine zK0 ?_;refine zR rfl trivial ?_;rfl
def fn113(cs ms:List TwD)(n:Int):Ox.Fn Tryz.prog 113 (.acons (.val shT (mkS cs ms)) (.acons (vI n) .anil)) (·=vB (decide (0≤n∧n<cs.length))):=by refine Ox.Fn.intro xok Tryz.func113 rfl Tryz.call113 (yyd rfl) (fun E M0 up=>?_);refine JK.start ?_;refine zK0 ?_;refine zR rfl trivial ?_;refine congrArg vB ?_;by_cases h:0≤n<;>simp[h]
def plTo(cs ms:List TwD)(c n:Nat):List Int:=((List.range n).filter fun a:Nat=>mkM cs ms ((c:Int),(a:Int),()) != 0).map Int.ofNat
abbrev plL(cs ms:List TwD)(c:Nat):List Int:=plTo cs ms c 501
def z67(cs ms:List TwD)(c n:Nat):plTo cs ms c (n+1)=if mkM cs ms ((c:Int),(n:Int),())≠0 then plTo cs ms c n++[(n:Int)] else plTo cs ms c n:=by
 unfold plTo;rw[List.range_succ,List.filter_append,yx0];by_cases h:mkM cs ms ((c:Int),(n:Int),())≠0
 ·rw[if_pos h];have:(mkM cs ms ((c:Int),(n:Int),()) != 0)=true:=bne_iff_ne.2 h;simp[List.filter,this]
 ·rw[if_neg h];have:(mkM cs ms ((c:Int),(n:Int),()) != 0)=false:=by simpa using h
  simp[List.filter,this]
def q8z(cs ms:List TwD)(c n:Nat):(plTo cs ms c n).length≤n:=by unfold plTo;rw[yx4];have:=yx5 (fun a:Nat=>mkM cs ms ((c:Int),(a:Int),()) != 0) (List.range n);rwa[List.length_range] at this
def pl_mem{c:Nat}{a:Int}(h:a∈plL cs ms c):(0≤a∧a≤500)∧mkM cs ms ((c:Int),a,())≠0:=by unfold plL plTo at h;simp only[yxc,yy6,yyr] at h;obtain⟨k,⟨h1,h2⟩,rfl⟩:=h;exact⟨⟨by show(0:Int)≤(k:Int);omega,by show(k:Int)≤500;omega⟩,by simpa using h2⟩
set_option maxRecDepth 20000 in
def fn49(hs:okSt cs ms)(h18:Ox.Fn Tryz.prog 18 (.acons (.val shT (mkS cs ms)) .anil) (·=vI 0))(c:Nat)(hc:c<cs.length) :
  Ox.Fn Tryz.prog 49 (.acons (.val shT (mkS cs ms)) (.acons (vI (c:Int)) .anil)) (·=.tup (.acons (vL (plL cs ms c)) (.acons (vI 0) .anil))):=by
 refine Ox.Fn.intro xok Tryz.func49 rfl Tryz.call49 (yyd rfl) (fun E M0 up=>?_);refine JK.start ?_;have c113:=fn113 cs ms c;rw[decide_eq_true (by omega:0≤(c:Int)∧(c:Int)<cs.length)] at c113;refine zK11 ?_;refine z5 rfl (fun h=>absurd h (by decide)) (fun _=>?_);refine zK11 ?_;refine z5 rfl (fun h=>absurd h (by decide)) (fun _=>?_);refine zK0 ?_;refine JK.ghost 6 2 (.int .i64) rfl ?_;refine JK.loop (fun i:Nat=>⟨[(1,vI (c:Int)),(2,.lf (.optr 0 [])),(4,.lf .nils),(5,vI 0),(6,.lf (.osl 1)),(7,vI (i:Int))],[(1,.sl 2 (.int .i64) (plTo cs ms c i)),(0,.cell shT (.val shT (mkS cs ms)))],2⟩) (fun i=>i≤501) (fun i=>501-i) 0 (yyw _) (by exact zJ) fun i hi=>?_;have ha:=z67 cs ms c i;have hl:=q8z cs ms c i;have c20:=fn20 hs ((c:Int),(i:Int),()) (by dsimp only;omega);have hb:i=501→plTo cs ms c i=plL cs ms c:=fun e=>by rw[e]
 generalize plTo cs ms c i=out at ha hl hb ⊢;refine zK0 ?_;refine z5 rfl (fun hd=>?_) (fun hd=>?_)
 ·replace hd:=zC hd;have hg:i≤500:=by omega
  generalize mkM cs ms ((c:Int),(i:Int),())=q at ha c20
  (repeat (first|refine zs rfl ?_|refine zg rfl rfl rfl ?_|refine zd ?_|refine w9 ?_|refine w7 ?_|refine zc rfl (c20) rfl rfl ?_|refine ze rfl (c20) rfl ?_|refine zk rfl rfl (fun _=>c20) rfl rfl ?_))
  refine z5 rfl (fun he=>?_) (fun he=>?_)
  ·have he:((q:Int) != 0)=true:=he;have hq:q≠0:=fun e=>by subst e;simp at he
   rw[if_pos hq] at ha;clear he;refine zK0 ?_;refine⟨i+1,?_,by omega,by omega⟩;dsimp only;rw[ha];exact zJ
  ·have he:((q:Int) != 0)=false:=he;have hq:¬ q≠0:=fun e=>by
    have:(q:Int)≠0:=by omega
    rw[bne_iff_ne.2 this] at he;cases he
   rw[if_neg hq] at ha;clear he;refine zK0 ?_;refine⟨i+1,?_,by omega,by omega⟩;dsimp only;rw[ha];exact zJ
 ·replace hd:=zC hd;rw[hb (by omega)]
  (refine q57 [1] [6] rfl ?_)
  refine zK0 ?_;refine zR rfl trivial ?_;rfl
def rlTo(cs ms:List TwD)(c:Nat):List TwD:=(List.range c).flatMap fun c=>(plL cs ms c).map fun a=>((c:Int),a,())
abbrev rowsL(cs ms:List TwD):List TwD:=rlTo cs ms cs.length
def q99(cs ms:List TwD)(c:Nat):rlTo cs ms (c+1)=rlTo cs ms c++(plL cs ms c).map fun a=>((c:Int),a,()):=by simp[rlTo,List.range_succ]
def z3c(cs ms:List TwD):∀ c,(rlTo cs ms c).length≤c*501
 |0=>by simp[rlTo]
 |c+1=>by rw[q99,yyx,yx4];have h1:=z3c cs ms c;have h2:(plL cs ms c).length≤501:=q8z cs ms c 501;omega
def rows_mem{z:TwD}(h:z∈rowsL cs ms):((0≤z.1∧z.1<cs.length)∧0≤z.2.1∧z.2.1≤500)∧mkM cs ms z≠0:=by unfold rowsL rlTo at h;simp only[List.mem_flatMap,yxc,yyr] at h;obtain⟨c,hc,a,ha,rfl⟩:=h;obtain⟨h1,h2⟩:=pl_mem ha;exact⟨⟨⟨by dsimp only;omega,by dsimp only;omega⟩,h1⟩,h2⟩
set_option maxRecDepth 20000 in
def fn19(hs:okSt cs ms)(h18:Ox.Fn Tryz.prog 18 (.acons (.val shT (mkS cs ms)) .anil) (·=vI 0)):Ox.Fn Tryz.prog 19 (.acons (.val shT (mkS cs ms)) .anil) (·=.val (.slice twT) (rowsL cs ms)):=by
 refine Ox.Fn.intro xok Tryz.func19 rfl Tryz.call19 (yyd rfl) (fun E M0 up=>?_);refine JK.start ?_;have h8:=hs.c8;refine zK0 ?_;refine JK.ghost 3 47 twT rfl ?_;refine JK.loop (fun c:Nat=>⟨[(1,.lf (.optr 0 [])),(2,.lf .nils),(3,.lf (.osl 1)),(4,vI (c:Int))],[(1,.sl 47 twT (rlTo cs ms c)),(0,.cell shT (.val shT (mkS cs ms)))],2⟩) (fun c=>c≤cs.length) (fun c=>cs.length-c) 0 (yyw _) (by exact zJ) fun c hc=>?_;have hb:=q99 cs ms c;have hl:=z3c cs ms c;have ha:c=cs.length→rlTo cs ms c=rowsL cs ms:=fun e=>by rw[e]
 have c49:=fn49 hs h18 c;have hj:(plL cs ms c).length≤501:=q8z cs ms c 501;generalize rlTo cs ms c=out at hb hl ha ⊢;generalize plL cs ms c=pl at hb c49 hj;refine zK0 ?_;refine z5 rfl (fun hd=>?_) (fun hd=>?_)
 ·replace hd:=zC hd;have hk:c<cs.length:=by omega
  have c49:=c49 hk
  (repeat (first|refine zs rfl ?_|refine zg rfl rfl rfl ?_|refine zd ?_|refine w9 ?_|refine w7 ?_|refine zc rfl (c49) rfl rfl ?_|refine ze rfl (c49) rfl ?_|refine zk rfl rfl (fun _=>c49) rfl rfl ?_))
  refine JK.loop (fun i:Nat=>⟨[(1,.lf (.optr 0 [])),(2,.lf .nils),(3,.lf (.osl 1)),(4,vI (c:Int)),(5,vL pl),(7,vI (i:Int))],[(1,.sl 47 twT (out++(pl.take i).map fun a=>((c:Int),a,()))),(0,.cell shT (.val shT (mkS cs ms)))],2⟩) (fun i=>i≤pl.length) (fun i=>pl.length-i) 0 (yyw _) (by simp only[List.take_zero,List.map_nil,yxb];exact zJ) fun i hi=>?_;have hg:i<pl.length→out++(pl.take (i+1)).map (fun a=>((c:Int),a,()))=(out++(pl.take i).map fun a=>((c:Int),a,()))++[((c:Int),pl.getD i 0,())]:=fun h=>by rw[yxg h,yx0,j4 pl h,yxj];rfl
  have hh:i=pl.length→out++(pl.take i).map (fun a=>((c:Int),a,()))=out++pl.map fun a=>((c:Int),a,()):=fun h=>by rw[h,yxr]
  have hp:(out++(pl.take i).map fun a=>((c:Int),a,())).length≤5000:=by rw[yyx,yx4,yxh];omega
  generalize out++(pl.take i).map (fun a=>((c:Int),a,()))=o at hg hh hp ⊢;refine zK0 ?_;refine z5 rfl (fun he=>?_) (fun he=>?_)
  ·replace he:=zC he;have hr:i<pl.length:=by omega
   refine zK0 ?_;refine⟨i+1,?_,by omega,by omega⟩;dsimp only;rw[hg hr];exact zJ
  ·replace he:=zC he;rw[hh (by omega),← hb];refine zK0 ?_;exact⟨c+1,by exact zJ,by omega,by omega⟩
 ·replace hd:=zC hd;rw[ha (by omega)]
  (refine q57 [1] [3] rfl ?_)
  refine zK0 ?_;refine zR rfl trivial ?_;rfl
instance okMk_dec:∀ (ms:List TwD) (nx:Int),Decidable (okMk ms nx)
 |[],_=>.isTrue trivial
 |m::r,nx=>by
  have:=okMk_dec r (m.2.1+1);unfold okMk
  infer_instance
def mrE(ms:List TwD):Int:=if okMk ms 0 then 0 else 3
def badB(m:TwD)(i:Nat)(p:Int):Bool:=bif (bif (bif bif decide (m.1<0) then true else decide (m.1>m.2.1) then true else decide (m.2.1>500)) then true else decide (m.2.1-m.1>3)) then true else(bif decide ((i:Int)>0) then decide (m.1≤p) else false)
def z2s(m:TwD)(i:Nat)(p:Int)(hb:i=0∨0≤p):badB m i p=true↔¬ ((if i=0 then 0 else p+1)≤m.1∧m.1≤m.2.1∧m.2.1≤500∧m.2.1-m.1≤3):=by
 obtain⟨a,b,u⟩:=m;unfold badB;dsimp only;simp only[z04,z9x,yyu,yyc,yyq];by_cases hi:i=0
 ·subst hi;rw[if_pos rfl];omega
 ·rw[if_neg hi];omega
def bad_no(m:TwD)(i:Nat)(p:Int)(hb:i=0∨0≤p)(h:badB m i p=false):(if i=0 then 0 else p+1)≤m.1∧m.1≤m.2.1∧m.2.1≤500∧m.2.1-m.1≤3:=yxy fun hc=>by have:=(z2s m i p hb).2 hc;rw[h] at this;cases this
set_option maxRecDepth 20000 in
set_option maxHeartbeats 2000000 in
def fn48(ms:List TwD):Ox.Fn Tryz.prog 48 (.acons (.val (.slice twT) ms) .anil) (·=vI (mrE ms)):=by
 refine Ox.Fn.intro xok Tryz.func48 rfl Tryz.call48 (yyd rfl) (fun E M0 up=>?_);refine JK.start ?_;refine JK.lenOf 0 rfl fun ha=>?_;replace ha:ms.length≤9223372036854775807:=ha.1;refine zK0 ?_;refine JK.loop (fun i:Nat=>⟨[(0,.val (.slice twT) ms),(2,vI 0),(3,vI (i:Int))],[],0⟩) (fun i=>i≤ms.length∧(okMk ms 0↔okMk (ms.drop i) (if i=0 then 0 else(ms.getD (i-1) (0,0,())).2.1+1))∧(i=0∨(0≤(ms.getD (i-1) (0,0,())).2.1∧(ms.getD (i-1) (0,0,())).2.1≤500))) (fun i=>ms.length-i) 0 ⟨yyw _,by simp,.inl rfl⟩ (by exact zJ) fun i ⟨hi,hn,hb⟩=>?_;refine zK0 ?_;refine z5 rfl (fun hc=>?_) (fun hc=>?_)
 ·replace hc:=zC hc;have hg:i<ms.length:=by omega
  rw[yy4 hg] at hn;have e:ms.getD (Int.toNat (i:Int)) twT.dflt=ms[i]:=j4 ms hg _;rw[← e] at hn;refine zK5 ?_;generalize hm:ms.getD (Int.toNat (i:Int)) twT.dflt=m at hn ⊢
  (refine q57 [0] [0,2,3,4] rfl ?_)
  have hd:i=0∨0≤(ms.getD (Int.toNat ((i:Int)-1)) twT.dflt).2.1:=by
   rcases hb with h|h
   ·exact .inl h
   ·right;rw[show Int.toNat ((i:Int)-1)=i-1 by omega];exact h.1
  rw[show(ms.getD (i-1) (0,0,()))=ms.getD (Int.toNat ((i:Int)-1)) twT.dflt by rw[show Int.toNat ((i:Int)-1)=i-1 by omega];rfl] at hn;by_cases hA:0≤m.1∧m.1≤m.2.1∧m.2.1≤500
  ·obtain⟨a1,a2,a3⟩:=hA;refine zK0 ?_;refine z5 rfl (fun he=>?_) (fun he=>?_)
   ·have he:=(z2s m i _ hd).1 he;refine zK0 ?_;refine zR rfl trivial ?_;unfold mrE;rw[if_neg fun h=>he (let ⟨q1,q2,q3,q4,_⟩:=hn.1 h;⟨q1,q2,q3,q4⟩)]
   ·have he:=bad_no m i _ hd he;refine zK0 ?_;refine⟨i+1,by exact zJ,⟨by omega,?_,.inr ?_⟩,by omega⟩
    ·rw[if_neg (by omega),Nat.add_sub_cancel,show ms.getD i (0,0,())=m from hm];exact hn.trans ⟨fun h=>h.2.2.2.2,fun h=>⟨he.1,he.2.1,he.2.2.1,he.2.2.2,h⟩⟩
    ·rw[Nat.add_sub_cancel,show ms.getD i (0,0,())=m from hm];have h1:=he.1;have h2:=he.2.1;have h3:=he.2.2.1;split at h1<;>omega
  ·have hX:(bif bif decide (m.1<0) then true else decide (m.1>m.2.1) then true else decide (m.2.1>500))=true:=by
    by_cases h1:m.1<0
    ·simp[h1]
    ·by_cases h2:m.1>m.2.1
     ·simp[h2]
     ·have:m.2.1>500:=by omega
      simp[this]
   refine zK0 ?_;refine zg rfl rfl rfl ?_ (fun hgd=>by rw[show wantB false _=wantB false true from congrArg _ hX] at hgd;cases hgd);refine zK0 ?_;refine z5 rfl (fun he=>?_) (fun he=>?_)
   ·have he:=(z2s m i _ hd).1 he;refine zK0 ?_;refine zR rfl trivial ?_;unfold mrE;rw[if_neg fun h=>he (let ⟨q1,q2,q3,q4,_⟩:=hn.1 h;⟨q1,q2,q3,q4⟩)]
   ·have he:=bad_no m i _ hd he;refine zK0 ?_;refine⟨i+1,by exact zJ,⟨by omega,?_,.inr ?_⟩,by omega⟩
    ·rw[if_neg (by omega),Nat.add_sub_cancel,show ms.getD i (0,0,())=m from hm];exact hn.trans ⟨fun h=>h.2.2.2.2,fun h=>⟨he.1,he.2.1,he.2.2.1,he.2.2.2,h⟩⟩
    ·rw[Nat.add_sub_cancel,show ms.getD i (0,0,())=m from hm];have h1:=he.1;have h2:=he.2.1;have h3:=he.2.2.1;split at h1<;>omega
 ·replace hc:=zC hc;refine zK0 ?_;refine zR rfl trivial ?_;have hh:i=ms.length:=by omega
  subst hh;rw[List.drop_length] at hn;unfold mrE;rw[if_pos (hn.2 trivial)]
def okC(c:TwD):Prop:=(1≤c.1∧c.1≤50)∧2≤c.2.1∧c.2.1≤20
instance (c:TwD):Decidable (okC c):=by unfold okC;infer_instance
def lnOk(cs ms:List TwD):Prop:=(1≤cs.length∧cs.length≤8)∧1≤ms.length∧ms.length≤12
instance (cs ms:List TwD):Decidable (lnOk cs ms):=by unfold lnOk;infer_instance
def chE(cs ms:List TwD):Int:=if ¬ lnOk cs ms then 6 else if ∀ c∈cs,okC c then mrE ms else 2
def badC(c:TwD):Bool:=bif (bif (bif decide (c.1<1) then true else decide (c.1>50)) then true else decide (c.2.1<2)) then true else decide (c.2.1>20)
def z4j(c:TwD):badC c=true↔¬ okC c:=by obtain⟨a,b,u⟩:=c;unfold badC okC;dsimp only;simp only[z04,yyu,yyq];omega
def badN(a b:Nat):Bool:=bif (bif (bif decide ((a:Int)<1) then true else decide ((a:Int)>8)) then true else decide ((b:Int)<1)) then true else decide ((b:Int)>12)
def z4i(cs ms:List TwD):badN cs.length ms.length=true↔¬ lnOk cs ms:=by unfold badN lnOk;simp only[z04,yyu,yyq];omega
def mk_mo:∀ {nx:Int},0≤nx→okMk ms nx→∀ m∈ms,0≤m.1∧m.1≤m.2.1∧m.2.1≤500:=by
 induction ms with
 |nil=>intro nx _ _ m hm;cases hm
 |cons x r ih=>
  intro nx hn h m hm;obtain⟨k1,k2,k3,k4,k5⟩:=h;rcases yym.1 hm with rfl|hm
  ·exact⟨by omega,k2,k3⟩
  ·exact ih (by omega) k5 m hm
def ch_ok(h:chE cs ms=0):okSt cs ms:=by
 unfold chE mrE at h;by_cases h1:lnOk cs ms
 ·rw[if_neg (not_not_intro h1)] at h;by_cases h2:∀ c∈cs,okC c
  ·rw[if_pos h2] at h;by_cases h3:okMk ms 0
   ·exact⟨⟨h1.1.1,h1.1.2,h1.2.1,h1.2.2,h2,mk_mo (Int.le_refl _) h3⟩,h3⟩
   ·rw[if_neg h3] at h;cases h
  ·rw[if_neg h2] at h;cases h
 ·rw[if_pos h1] at h;cases h
set_option maxRecDepth 20000 in
set_option maxHeartbeats 2000000 in
def fn18(cs ms:List TwD):Ox.Fn Tryz.prog 18 (.acons (.val shT (mkS cs ms)) .anil) (·=vI (chE cs ms)):=by
 refine Ox.Fn.intro xok Tryz.func18 rfl Tryz.call18 (yyd rfl) (fun E M0 up=>?_);refine JK.start ?_;refine JK.lenOf 0 rfl fun ha=>?_;have hk:cs.length≤9223372036854775807:=by simp only[Ty.lens] at ha;omega
 have c48:=fn48 ms;refine zK0 ?_;refine z5 rfl (fun hc=>?_) (fun hc=>?_)
 ·have hc:badN cs.length ms.length=true:=hc;refine zK0 ?_;refine zR rfl trivial ?_;unfold chE;rw[if_pos ((z4i cs ms).1 hc)]
 have hc:badN cs.length ms.length=false:=hc;have he:lnOk cs ms:=yxy fun h=>by rw[(z4i cs ms).2 h] at hc;cases hc
 have h8:=he.1.2;clear hc;refine zK0 ?_;refine JK.loop (fun i:Nat=>⟨[(1,.lf (.optr 0 [])),(2,vI 0),(3,vI (i:Int))],[(0,.cell shT (.val shT (mkS cs ms)))],1⟩) (fun i=>i≤cs.length∧∀ c∈cs.take i,okC c) (fun i=>cs.length-i) 0 ⟨yyw _,by simp⟩ (by exact zJ) fun i ⟨hi,hb⟩=>?_;refine zK0 ?_;refine z5 rfl (fun hc=>?_) (fun hc=>?_)
 ·replace hc:=zC hc;have hg:i<cs.length:=by omega
  have e:cs.getD (Int.toNat (i:Int)) twT.dflt=cs[i]:=j4 cs hg _;refine zK0 ?_;refine z5 rfl (fun hd=>?_) (fun hd=>?_)
  ·have hd:badC (cs.getD (Int.toNat (i:Int)) twT.dflt)=true:=hd;rw[e] at hd;refine zK0 ?_;refine zR rfl trivial ?_;unfold chE;rw[if_neg (not_not_intro he),if_neg fun h=>(z4j _).1 hd (h _ (yy9 hg))]
  ·have hd:badC (cs.getD (Int.toNat (i:Int)) twT.dflt)=false:=hd;rw[e] at hd;have hh:okC cs[i]:=yxy fun h=>by rw[(z4j _).2 h] at hd;cases hd
   refine zK0 ?_;refine⟨i+1,by exact zJ,⟨by omega,?_⟩,by omega⟩;rw[yxg hg];intro c hc;rcases yy3.1 hc with h|h
   ·exact hb c h
   ·rw[yy0.1 h];exact hh
 ·replace hc:=zC hc;have hj:i=cs.length:=by omega
  rw[hj,yxr] at hb
  (repeat (first|refine zs rfl ?_|refine zg rfl rfl rfl ?_|refine zd ?_|refine w9 ?_|refine w7 ?_|refine zc rfl (c48) rfl rfl ?_|refine ze rfl (c48) rfl ?_|refine zk rfl rfl (fun _=>c48) rfl rfl ?_))
  refine zR rfl trivial ?_;unfold chE;rw[if_neg (not_not_intro he),if_pos hb]
end Go.Proofs.YtjecebccchhmhaaGreatDoor.Cb
namespace Ox
open Go Go.RowKit Ox.Rn
def FnL.toZ{Z:Mem→Prop}{r:AV}(hr:r.scal=true)(h:FnL Z P f .anil (·=r)):FnZ Z P f r.toV where
 call:=h.call
 run:=fun M w hz hM=>by
  let ρ:Env:=⟨fun _=>0,fun _=>.bool,fun _=>Go.undef⟩
  refine(h.run M ρ w [] hz hM (by simp only[AV.rvs]) trivial).mono ?_;rintro e w' ⟨v,r',M',rfl,rfl,_,hv,ha,_⟩;exact⟨by rw[(y4 hr).1 hv],ha⟩
end Ox
namespace Go.Proofs.YtjecebccchhmhaaGreatDoor
open Go Go.RowKit Ox Ox.Gl Ox.Rn
attribute [local irreducible] JC JL JK JW
variable {gs:List Gt}
abbrev twT:=Cb.twT
abbrev TwD:=Cb.TwD
abbrev vRs(R:List TwD):AV:=.val (.slice twT) R
abbrev vSp(cs ms:List TwD):AV:=.val (.ptr Cb.shT) (some (Cb.mkS cs ms))
def btF(cs ms R:List TwD)(i:Nat):Nat:=Cb.mkM cs ms (R.getD i (0,0,()))
def mostL(bt:Nat→Nat)(L i:Nat):List Int:=(List.range L).map fun m=>((manyM bt i m:Nat):Int)
def mostK(bt:Nat→Nat)(L i k:Nat):List Int:=(List.range L).map fun m=>((manyM bt i m+((twB (bt i)).take k).count m:Nat):Int)
abbrev LS(cs ms:List TwD)(w:List Int)(R:List TwD):List (Nat×AV):=[(1,vU w),(2,vSp cs ms),(4,vB false),(5,vRs R),(6,.lf (.optr 1 [])),(7,.lf (.osl 2))]
abbrev LT(cs ms:List TwD)(w:List Int)(R:List TwD)(ps:List (List Int))(A:List Int):List (Nat×AV):=[(1,vU w),(2,vSp cs ms),(4,vB false),(5,vRs R),(6,.val (.ptr beT) (some (mkB (R.length:Int) ps))),(7,vL A)]
abbrev HS(n:Nat)(A:List Int)(ps:List (List Int)):List (Nat×HO):=[(1,.cell beT (.mix (vI (n:Int)) (.mix (.lf (.osl 3)) (.val .nil ())))),(2,.sl 3 (.int .i64) A),(3,.sl 75 prT ps)]
def z47(bt:Nat→Nat)(L:Nat):mostL bt L 0=List.replicate L 0:=by unfold mostL;rw[List.eq_replicate_iff];refine⟨by simp,fun x hx=>?_⟩;obtain⟨m,_,rfl⟩:=yxc.1 hx;simp[manyM]
def z48(bt:Nat→Nat)(L i:Nat):mostK bt L i 0=mostL bt L i:=by simp[mostK,mostL]
def z7u(bt:Nat→Nat)(L i k:Nat):(mostK bt L i k).length=L:=by simp[mostK]
def z7v(bt:Nat→Nat)(h:L≤12)(i:Nat):mostK bt L i (twB (bt i)).length=mostL bt L (i+1):=by unfold mostK mostL;refine List.map_congr_left fun m hm=>?_;rw[yxr,z71 bt i m (by have:=yyr.1 hm;omega)]
variable{k:Nat}
def z0k(bt:Nat→Nat)(h:m<L):(mostK bt L i k).getD m 0=((manyM bt i m+((twB (bt i)).take k).count m:Nat):Int):=by unfold mostK;rw[yyp,List.getElem?_map,List.getElem?_range h];rfl
def z3q(h:m<(mostK bt L i k).length):(mostK bt L i k)[m]=((manyM bt i m+((twB (bt i)).take k).count m:Nat):Int):=by simp[mostK]
def z49(bt:Nat→Nat)(L i:Nat)(hk:k<(twB (bt i)).length)(hL:(twB (bt i)).getD k 0<L):mostK bt L i (k+1)=(mostK bt L i k).set ((twB (bt i)).getD k 0) ((mostK bt L i k).getD ((twB (bt i)).getD k 0) 0+1):=by
 obtain⟨v,hv⟩:∃ v,(mostK bt L i k).getD ((twB (bt i)).getD k 0) 0=v:=⟨_,rfl⟩;rw[hv];rw[z0k bt hL] at hv;refine List.ext_getElem (by simp[mostK]) fun m h1 h2=>?_;have ha:m<L:=by simpa[mostK] using h1
 have hg:(twB (bt i)).getD k 0=(twB (bt i))[k]:=j4 _ hk 0;have hT:(twB (bt i)).take (k+1)=(twB (bt i)).take k++[(twB (bt i))[k]]:=yxg hk;rw[z3q,List.getElem_set,hT,List.count_append];by_cases e:(twB (bt i)).getD k 0=m
 ·rw[e] at hv;rw[if_pos e,← hv];rw[hg] at e;have:List.count m [(twB (bt i))[k]]=1:=by simp[e]
  rw[this];omega
 ·rw[if_neg e,z3q];rw[hg] at e;have:List.count m [(twB (bt i))[k]]=0:=by simp[e]
  rw[this];omega
def mostK_bd(bt:Nat→Nat)(L i k m:Nat)(hm:m<L):0≤(mostK bt L i k).getD m 0∧(mostK bt L i k).getD m 0≤(i:Int)+12:=by
 rw[z0k bt hm];have h1:manyM bt i m≤i:=by unfold manyM;have:=yx5 (fun j=>(bt j).testBit m) (List.range i);rwa[List.length_range] at this
 have h2:((twB (bt i)).take k).count m≤12:=Nat.le_trans List.count_le_length (by rw[yxh];have:=z57 (bt i);omega);omega
abbrev LU(cs ms:List TwD)(R:List TwD)(A:List Int)(Rd:List (List Nat)):List (Nat×AV):=[(2,vSp cs ms),(4,vB false),(5,vRs R),(7,vL A),(18,vLL (Rd.map (List.map stk)))]
def z3b{P:Nat→Nat→Bool}{n:Nat}:∀ (m:Nat) {q:List Nat},(rndL P n m q).length≤m
 |0,q=>by simp[rndL]
 |m+1,q=>by
  unfold rndL;split
  ·simp
  ·rw[List.length_cons];exact Nat.succ_le_succ (z3b m)
def z82(hi:i<Rd.length){rd:List Nat}(h:Rd[i]=rd):Rd.flatten=(Rd.take i).flatten++(rd++(Rd.drop (i+1)).flatten):=by
 conv=>lhs;rw[← List.take_append_drop i Rd]
 rw[List.flatten_append,yy4 hi,h,List.flatten_cons]
def z3e(r1:(∀ c∈Rd.flatten,c<n)∧Rd.flatten.Nodup)(hi:i<Rd.length){rd:List Nat}(h:Rd[i]=rd):rd.Nodup:=by have:=r1.2;rw[z82 hi h,List.nodup_append] at this;exact(List.nodup_append.1 this.2.1).1
def rd_facts(r1:(∀ c∈Rd.flatten,c<n)∧Rd.flatten.Nodup)(r3:∀ (r:List Nat),r∈Rd→∀ (a c:Nat),a∈r→c∈r→a≠c→bt a &&& bt c=0)(hi:i<Rd.length){rd:List Nat}(h:Rd[i]=rd)(hk:k<rd.length) :
  rd.getD k 0<n∧rd.getD k 0∉(Rd.take i).flatten++rd.take k∧bt (rd.getD k 0) &&& Gl.mkB bt (rd.take k)=0:=by
 have hb:rd∈Rd:=h▸yy9 hi;have hd:=r1.2;rw[z82 hi h] at hd;have hh:=z3e r1 hi h;have hg:rd.getD k 0=rd[k]:=j4 rd hk 0;have he:rd[k]∉rd.take k:=fun e=>by obtain⟨j,hj,e⟩:=List.mem_take_iff_getElem.1 e;have:=(List.getElem_inj hh).1 e;omega
 rw[hg];refine⟨r1.1 _ (List.mem_flatten.2 ⟨rd,hb,yy9 hk⟩),fun e=>?_,?_⟩
 ·rcases yy3.1 e with e|e
  ·exact(List.nodup_append.1 hd).2.2 _ e _ (yxw _ (yy9 hk)) rfl
  ·exact he e
 ·rw[Nat.and_comm];exact z7z fun a ha=>r3 rd hb a _ (List.mem_of_mem_take ha) (yy9 hk) fun e=>he (e▸ha)
def idx_lt{at_:Int}:∀ {ms:List TwD} {i:Nat},0≤Cb.idxB (Cb.inP at_) ms i→Cb.idxB (Cb.inP at_) ms i<(i:Int)+ms.length:=fun {ms i} h=>by
 rcases Cb.idxB_bd (p:=Cb.inP at_) (xs:=ms) (i:=i) with e|⟨_,e⟩
 ·omega
 ·exact e
def z58{ms:List TwD}{at_ sp:Int}:∀ {t o:Nat},Cb.tth ms at_ sp t=some o→o<2 ^ ms.length
 |0,o,h=>by injection h with h;subst h;exact Nat.two_pow_pos _
 |t+1,o,h=>by
  have h:(match Cb.tth ms at_ sp t with|none=>none|some o=>if Cb.inM ms (at_+(t:Int)*sp)<0 then none else some (o ||| 2 ^ (Cb.inM ms (at_+(t:Int)*sp)).toNat))=some o:=h;split at h
  ·cases h
  ·rename_i o' ha;split at h
   ·cases h
   ·rename_i hn;injection h with h
    subst h;have h2:=idx_lt (at_:=at_+(t:Int)*sp) (ms:=ms) (i:=0) (by unfold Cb.inM at hn;omega);refine Nat.or_lt_two_pow (z58 ha) (Nat.pow_lt_pow_right (by decide) ?_);unfold Cb.inM at hn ⊢;omega
def mkM_lt2(cs ms:List TwD)(z:TwD):Cb.mkM cs ms z<2 ^ ms.length:=by
 unfold Cb.mkM;split
 ·exact Nat.two_pow_pos _
 ·cases h:Cb.tth ms z.2.1 (cs.getD z.1.toNat (0,0,())).1 (cs.getD z.1.toNat (0,0,())).2.1.toNat with
  |none=>exact Nat.two_pow_pos _
  |some o=>exact z58 h
set_option maxRecDepth 20000 in
set_option maxHeartbeats 4000000 in
def fn4(hg:Cb.g64∈gs)(Hb:FnZ (Laid gs) Tryz.prog 17 (.bool true))(cs ms:List TwD)(w:List Int)(hw:∀ y∈w,0≤y∧y≤255):FnE gs Tryz.prog 4 (.acons (.val Cb.shT (Cb.mkS cs ms)) (.acons (vU w) .anil)) (·=vB true):=by
 refine Ox.FnX.intro xok Tryz.func4 rfl Tryz.call4 (yyd rfl) (fun E M0 up hz=>?_);refine JK.start ?_;have c18:=Cb.fn18 cs ms
 (repeat (first|refine zs rfl ?_|refine zg rfl rfl rfl ?_|refine zd ?_|refine w9 ?_|refine w7 ?_|refine zc rfl (c18) rfl rfl ?_|refine ze rfl (c18) rfl ?_|refine zk rfl rfl (fun _=>c18) rfl rfl ?_))
 refine z5 rfl (fun hc=>?_) (fun hc=>?_)
 ·refine zK0 ?_;refine z1k rfl Hb hz rfl trivial ?_;refine zK0 ?_;refine zR rfl trivial ?_;rfl
 have HD:Cb.chE cs ms=0∧w.length≤20:=by
  by_cases h1:Cb.chE cs ms=0
  ·refine⟨h1,?_⟩;by_cases h2:(w.length:Int)>20
   ·simp[h2] at hc
   ·omega
  ·simp[h1] at hc
 obtain⟨h0,HE⟩:=HD;clear hc;rw[h0] at c18;have hs:=Cb.ch_ok h0;have c19:=Cb.fn19 hs c18;have hJ:=hs.m12
 (refine q57 [0] [1,2,4] rfl ?_)
 (repeat (first|refine zs rfl ?_|refine zg rfl rfl rfl ?_|refine zd ?_|refine w9 ?_|refine w7 ?_|refine zc rfl (c19) rfl rfl ?_|refine ze rfl (c19) rfl ?_|refine zk rfl rfl (fun _=>c19) rfl rfl ?_))
 have Hc:∀ z∈List.take (Int.toNat (min 8 ((Cb.rowsL cs ms).length:Int))) (Cb.rowsL cs ms),((0≤z.1∧z.1<cs.length)∧0≤z.2.1∧z.2.1≤500)∧Cb.mkM cs ms z≠0:=fun z h=>Cb.rows_mem (List.mem_of_mem_take h);have hD:(List.take (Int.toNat (min 8 ((Cb.rowsL cs ms).length:Int))) (Cb.rowsL cs ms)).length≤8:=by rw[yxh];omega
 refine q1u (s':=⟨[(1,vU w),(2,vSp cs ms),(4,vB false),(5,vRs (List.take (Int.toNat (min 8 ((Cb.rowsL cs ms).length:Int))) (Cb.rowsL cs ms))),(56,vB ((((List.take (Int.toNat (min 8 ((Cb.rowsL cs ms).length:Int))) (Cb.rowsL cs ms)).length:Nat):Int)==0))],[],1⟩) (JW.low ⟨rfl,rfl,rfl,rfl,rfl,trivial⟩ (subH.refl _) ⟨trivial,trivial,trivial,trivial,trivial,trivial⟩ trivial) ?_;generalize List.take (Int.toNat (min 8 ((Cb.rowsL cs ms).length:Int))) (Cb.rowsL cs ms)=R at Hc hD ⊢;refine z5 rfl (fun hc=>?_) (fun hc=>?_)
 ·refine zK0 ?_;refine z1k rfl Hb hz rfl trivial ?_;refine zK0 ?_;refine zR rfl trivial ?_;rfl
 have HF:1≤R.length:=by
  have:((R.length:Int)==0)=false:=hc;by_cases h:R.length=0
  ·rw[h] at this;cases this
  ·omega
 clear hc c19 c18;have h5:=fun i (h:i<R.length)=>Hc (R.getD i (0,0,())) (by rw[j4 R h];exact yy9 h);have c8:=fun i (h:i<R.length)=>Cb.fn8 hg hs (R.getD i (0,0,())) (h5 i h).1.1 (h5 i h).2;have c20:=fun i (h:i<R.length)=>Cb.fn20 hs (R.getD i (0,0,())) (h5 i h).1.1;have Hr:∀ i,i<R.length→btF cs ms R i≠0:=fun i h=>(h5 i h).2;have hK:∀ i,btF cs ms R i<4096:=fun i=>Cb.mkM_lt hs.m12 _;have Hs:∀ i,btF cs ms R i<2 ^ ms.length:=fun i=>mkM_lt2 cs ms _;have Ht:∀ i,Cb.mkM cs ms (R.getD i (0,0,()))=btF cs ms R i:=fun i=>rfl;simp only[Ht] at c8 c20;clear Ht Hc;generalize btF cs ms R=bt at c8 c20 Hr hK Hs;refine zK0 ?_;refine c9 1 [true,false] 75 prT rfl rfl ?_;refine JK.loop (fun i:Nat=>⟨LS cs ms w R++[(8,vI (i:Int))],HS R.length (mostL bt ms.length i) (crT bt i),4⟩) (fun i=>i≤R.length) (fun i=>R.length-i) 0 (yyw _) (by rw[z47,crT_zero];exact zJ) fun i hi=>?_;have c8:=c8 i;have c20i:=c20 i;have hv:=Hr i;have hL:=hK i;have hM:=Hs i;have h6:=z48 bt ms.length i;have hN:=fun h=>z7v bt (L:=ms.length) h i;have hj:=fun k=>z49 (k:=k) bt ms.length i;have hF:=z7u bt ms.length i;have hp:=mostK_bd bt ms.length i;have hP:=crU_succ bt i;have Hu:=z39 bt i;have hG:=fun h k=>crTU_len (bt:=bt) (i:=i) h (k:=k);have hh:i=R.length→mostL bt ms.length i=mostL bt ms.length R.length∧crT bt i=crT bt R.length:=fun e=>by rw[e];exact⟨rfl,rfl⟩
 rw[← h6];refine zK0 ?_;refine z5 rfl (fun hc=>?_) (fun hc=>?_)
 ·replace hc:=zC hc;have hl:i<R.length:=by omega
  have c8:=c8 hl;have c20i:=c20i hl;have hv:=hv hl;have hG:=fun k hk=>hG (by omega) k hk;have c21:=Cb.fn21 (bt i) hL;have Hd:(twI (bt i)).length=(twB (bt i)).length:=by simp[twI]
  have hQ:∀ k,k<(twB (bt i)).length→(twI (bt i)).getD k 0=(((twB (bt i)).getD k 0:Nat):Int)∧(twB (bt i)).getD k 0<ms.length:=fun k hk=>by
   have hg:(twB (bt i)).getD k 0=(twB (bt i))[k]:=j4 _ hk 0;refine⟨?_,?_⟩
   ·unfold twI;rw[yyp,List.getElem?_map,yyv hk,hg];rfl
   ·rw[hg];have hm:=(z56.1 (yy9 hk)).2;refine Nat.lt_of_not_le fun HG=>?_;have:=Nat.testBit_lt_two_pow (yxa hM (yxo (by decide) HG));rw[this] at hm;cases hm
  have HH:=z57 (bt i);generalize twI (bt i)=T at c8 c21 Hd hQ ⊢;generalize HZ:(twB (bt i))=tb at *;refine zK5 ?_;refine q22 xk (Tryz.f4.body.getD .skip) ⟨LS cs ms w R++[(8,vI (i:Int)),(9,vL T),(10,vI 0)],HS R.length (mostK bt ms.length i 0) (crT bt i),4⟩ rfl 11 rfl ?_ ?_
  ·(refine q7 1 xk rfl rfl (q7 2 xk rfl rfl (q7 3 xk rfl rfl (j3 0 xk rfl rfl (j3 4 xk rfl rfl (zU 5 xk rfl rfl ?_)))));((refine z4r (gs:=gs) hz rfl rfl c8 (v6 rfl) trivial (fun r hr=>?_);subst hr));refine w4 ?_;refine q7 6 xk rfl rfl (q7 7 xk rfl rfl (q7 8 xk rfl rfl (q7 9 xk rfl rfl (q7 10 xk rfl rfl ?_))));refine q0b xk StF.nil ?_;(exact zJ))
  (repeat (first|refine zt rfl rfl ?_|refine zs rfl ?_|refine zg rfl rfl rfl ?_|refine zd ?_|refine w9 ?_|refine w7 ?_|refine zc rfl (c20i) rfl rfl ?_|refine ze rfl (c20i) rfl ?_|refine zk rfl rfl (fun _=>c20i) rfl rfl ?_|refine zc rfl (c21) rfl rfl ?_|refine ze rfl (c21) rfl ?_|refine zk rfl rfl (fun _=>c21) rfl rfl ?_))
  refine z5 rfl (fun h=>absurd h ?_) (fun _=>?_)
  ·show ¬ ((bif ((0:Int) != 0) then true else((T.length:Int) != (T.length:Int)))=true);simp
  refine zK0 ?_;refine JK.loop (fun k:Nat=>⟨LS cs ms w R++[(8,vI (i:Int)),(9,vL T),(11,vI (bt i:Int)),(12,vI (k:Int))],HS R.length (mostK bt ms.length i k) (crT bt i),4⟩) (fun k=>k≤T.length) (fun k=>T.length-k) 0 (yyw _) (by exact zJ) fun k hk=>?_;have hj:=hj k;have hF:=hF k;have hp:=hp k;have hQ:=hQ k;have hN:=hN hJ;have He:k=T.length→mostK bt ms.length i k=mostL bt ms.length (i+1):=fun e=>by rw[e,Hd];exact hN
  generalize mostK bt ms.length i k=A at hj hF hp He ⊢;refine zK0 ?_;refine z5 rfl (fun hd=>?_) (fun hd=>?_)
  ·replace hd:=zC hd;have hy:k<tb.length:=by omega
   obtain⟨g1,g2⟩:=hQ hy;have hj:=hj hy g2;have hp:=hp _ g2;generalize tb.getD k 0=j at g1 g2 hj hp;have g1':T.getD (Int.toNat (k:Int)) (Ty.int .i64).dflt=(j:Int):=g1;have HI:0≤T.getD (Int.toNat (k:Int)) (Ty.int .i64).dflt∧T.getD (Int.toNat (k:Int)) (Ty.int .i64).dflt<A.length:=by rw[g1',hF];omega
   have Hv:j=Int.toNat (T.getD (Int.toNat (k:Int)) (Ty.int .i64).dflt):=by rw[g1'];rfl
   rw[Hv] at hp hj;replace hp:0≤A.getD (Int.toNat (T.getD (Int.toNat (k:Int)) (Ty.int .i64).dflt)) (Ty.int .i64).dflt∧A.getD (Int.toNat (T.getD (Int.toNat (k:Int)) (Ty.int .i64).dflt)) (Ty.int .i64).dflt≤(i:Int)+12:=hp;replace hj:mostK bt ms.length i (k+1)=A.set (Int.toNat (T.getD (Int.toNat (k:Int)) (Ty.int .i64).dflt)) (A.getD (Int.toNat (T.getD (Int.toNat (k:Int)) (Ty.int .i64).dflt)) (Ty.int .i64).dflt+1):=hj;clear Hv g1 g1';refine zK0 ?_;refine z5 rfl (fun h=>absurd h ?_) (fun _=>?_)
   ·show ¬ ((bif decide (T.getD (Int.toNat (k:Int)) (Ty.int .i64).dflt<0) then true else decide ((A.length:Int)≤T.getD (Int.toNat (k:Int)) (Ty.int .i64).dflt))=true);generalize T.getD (Int.toNat (k:Int)) (Ty.int .i64).dflt=t at HI;have h1:¬ t<0:=by omega
    have h2:¬ (A.length:Int)≤t:=by omega
    simp[h1,h2]
   refine zK0 ?_;refine⟨k+1,?_,by omega,by omega⟩;dsimp only;rw[hj];exact zJ
  ·replace hd:=zC hd;rw[He (by omega)];clear He hj hp hF hQ hN Hd c8 c21 c20i hv h6;refine zK0 ?_;generalize hA:mostL bt ms.length (i+1)=A;refine JK.loop (fun k:Nat=>⟨LS cs ms w R++[(8,vI (i:Int)),(11,vI (bt i:Int)),(13,vI (k:Int))],HS R.length A (crT bt i++crU bt i k),4⟩) (fun k=>k≤i) (fun k=>i-k) 0 (yyw _) (by rw[crU_zero,yxb];exact zJ) fun k hk=>?_;have hP:=hP k;have hG:=hG k hk;have Hw:k=i→crT bt i++crU bt i k=crT bt (i+1):=fun e=>by rw[Hu,e]
   have c20k:=c20 k;have H0:=hK k;have hB:bt k &&& bt i≠0→crT bt i++crU bt i (k+1)=(crT bt i++crU bt i k)++[[(k:Int),(i:Int)]]:=fun h=>by rw[hP,if_pos h,yxj]
   have h7:¬ (bt k &&& bt i≠0)→crT bt i++crU bt i (k+1)=crT bt i++crU bt i k:=fun h=>by rw[hP,if_neg h]
   generalize crT bt i++crU bt i k=ps at hG Hw hB h7 ⊢;refine zK0 ?_;refine z5 rfl (fun he=>?_) (fun he=>?_)
   ·replace he:=zC he;have hy:k<i:=by omega
    have c20k:=c20k (by omega);have hR:((((bt k:Nat):Int).toNat &&& ((bt i:Nat):Int).toNat:Nat):Int)=((bt k &&& bt i:Nat):Int):=by rw[Int.toNat_natCast,Int.toNat_natCast]
    (repeat (first|refine zs rfl ?_|refine zg rfl rfl rfl ?_|refine zd ?_|refine w9 ?_|refine w7 ?_|refine zc rfl (c20k) rfl rfl ?_|refine ze rfl (c20k) rfl ?_|refine zk rfl rfl (fun _=>c20k) rfl rfl ?_))
    refine z5 rfl (fun hf=>?_) (fun hf=>?_)
    ·have hf:(((((bt k:Nat):Int).toNat &&& ((bt i:Nat):Int).toNat:Nat):Int) != 0)=true:=hf;rw[hR] at hf;have hx:bt k &&& bt i≠0:=fun e=>by rw[e] at hf;cases hf
     have hB:=hB hx;clear hf;refine zK0 ?_;refine⟨k+1,?_,by omega,by omega⟩;dsimp only;rw[hB];exact zJ
    ·have hf:(((((bt k:Nat):Int).toNat &&& ((bt i:Nat):Int).toNat:Nat):Int) != 0)=false:=hf;rw[hR] at hf;have hx:¬ (bt k &&& bt i≠0):=fun e=>by
      have h2:((bt k &&& bt i:Nat):Int)≠0:=by omega
      rw[bne_iff_ne.2 h2] at hf;cases hf
     have h7:=h7 hx;clear hf;refine zK0 ?_;refine⟨k+1,?_,by omega,by omega⟩;dsimp only;rw[h7];exact zJ
   ·replace he:=zC he;rw[Hw (by omega)];refine zK0 ?_;refine⟨i+1,?_,by omega,by omega⟩;dsimp only;rw[hA];exact zJ
 ·replace hc:=zC hc;rw[h6,(hh (by omega)).1,(hh (by omega)).2];clear h6 hN hj hF hp hP Hu hG hh hM hL hv c20i c8 hc;have Hf:∀ m,m<ms.length→(mostL bt ms.length R.length).getD m 0=((manyM bt R.length m:Nat):Int):=fun m hm=>by unfold mostL;rw[yyp,List.getElem?_map,List.getElem?_range hm];rfl
  have HJ:(mostL bt ms.length R.length).length=ms.length:=by simp[mostL]
  have hU:=crT_crs bt R.length;have c22:=fun(o:List Nat) (ho:o.Perm (List.range R.length))=>fn22 (n:=(R.length:Int)) (ps:=crT bt R.length) (P:=PO bt R.length o) (m:=R.length) (by rw[hU,PO_crs ho]) PO_irr hD ho (PO_lin ho) (ord_lst HF hD ho);generalize mostL bt ms.length R.length=A at Hf HJ ⊢;generalize crT bt R.length=ps at hU c22 ⊢
  (refine q57 [2,3] [1,2,4,5,6,7] rfl ?_)
  refine z4u 1 rfl rfl ?_
  (refine q57 [1] [1,2,4,5,6,7] rfl ?_)
  refine zK0 ?_;refine JK.ghost 14 3 (.int .i64) rfl ?_;refine JK.loop (fun i:Nat=>⟨LT cs ms w R ps A++[(14,.lf (.osl 4)),(15,vI (i:Int))],[(4,.sl 3 (.int .i64) ((List.range i).map stk))],5⟩) (fun i=>i≤R.length) (fun i=>R.length-i) 0 (yyw _) (by exact zJ) fun i hi=>?_;have Hh:(List.range (i+1)).map stk=(List.range i).map stk++[(i:Int)+1]:=by rw[List.range_succ,yx0];rfl
  have hW:((List.range i).map stk).length=i:=by simp
  have hh:i=R.length→(List.range i).map stk=(List.range R.length).map stk:=fun e=>by rw[e]
  generalize (List.range i).map stk=D at Hh hW hh ⊢;refine zK0 ?_;refine z5 rfl (fun hc=>?_) (fun hc=>?_)
  ·replace hc:=zC hc;refine zK0 ?_;refine⟨i+1,?_,by omega,by omega⟩;dsimp only;rw[Hh];exact zJ
  replace hc:=zC hc;rw[hh (by omega)];clear Hh hW hh hi hc;have h9:((List.range R.length).map stk).length=R.length:=by simp
  have Ha:∀ D:List Int,D.Perm ((List.range R.length).map stk)→∃ o:List Nat,o.Perm (List.range R.length)∧D=o.map stk:=fun D h=>by
   refine⟨D.map St.lnS,?_,?_⟩
   ·have:=h.map St.lnS;rw[List.map_map] at this;have e:(List.range R.length).map (St.lnS∘stk)=List.range R.length:=(List.map_congr_left fun x _=>u0 x).trans (List.map_id _);rwa[e] at this
   ·rw[List.map_map];refine((List.map_congr_left fun x hx=>?_).trans (List.map_id D)).symm;obtain⟨c,_,rfl⟩:=yxc.1 (h.mem_iff.1 hx);show stk (St.lnS (stk c))=stk c;rw[u0]
  obtain⟨n,hn⟩:∃ n,n=R.length:=⟨_,rfl⟩;rw[← hn] at h9 Ha hU c22 Hf ⊢;have hZ:=fun i=>q6s w n i ((List.range n).map stk);have Hi:shufF w n 0 ((List.range n).map stk)=(List.range n).map stk:=rfl;have hu:=fun i=>show shufF w n (i+1) ((List.range n).map stk)=swp (shufF w n i ((List.range n).map stk)) i ((w.getD (i % w.length) 0).toNat % n) from rfl;have hH:=fun i (h:i≤n)=>q70 w (n:=n) i ((List.range n).map stk) h h9;generalize (List.range n).map stk=D0 at h9 hZ Hi hu hH Ha ⊢;refine zK0 ?_;refine JK.loop (fun i:Nat=>⟨LT cs ms w R ps A++[(14,.lf (.osl 4)),(16,vI (i:Int))],[(4,.sl 3 (.int .i64) (shufF w n i D0))],5⟩) (fun i=>i≤n) (fun i=>n-i) 0 (yyw _) (by rw[Hi];exact zJ) fun i hi=>?_;have hu:=hu i;have hZ:=hZ i;have hH:=hH i hi;generalize shufF w n i D0=D at hZ hu hH ⊢;refine zK0 ?_;refine z5 rfl (fun hc=>?_) (fun hc=>?_)
  ·replace hc:=zC hc;have HK:0<w.length:=by omega
   have hl:i<n:=by omega
   have Hx:i % w.length<w.length:=Nat.mod_lt _ HK;have Hj:=hw (w.getD (i % w.length) 0) (by rw[j4 w Hx];exact yy9 Hx);have wi:(i:Int) % (w.length:Int)=((i % w.length:Nat):Int):=rfl;have wb:0≤(i:Int) % (w.length:Int)∧(i:Int) % (w.length:Int)<w.length:=by rw[wi];omega
   have wz:w.getD (Int.toNat ((i:Int) % (w.length:Int))) (Ty.int .u8).dflt=w.getD (i % w.length) 0:=by rw[wi];rfl
   rw[← wz] at Hj hu;have Hy:D.length=n:=by omega
   have HL:(D.length:Int)≠0:=by omega
   have H1:(w.length:Int)≠0:=by omega
   refine zK5 ?_;generalize w.getD (Int.toNat ((i:Int) % (w.length:Int))) (Ty.int .u8).dflt=v at Hj hu ⊢;have hJ:=Int.emod_nonneg v HL;have h3:=Int.emod_lt_of_pos v (show 0<(D.length:Int) by omega);obtain⟨k,hk⟩:∃ k:Nat,v % (D.length:Int)=(k:Int):=⟨(v % (D.length:Int)).toNat,by omega⟩;have HM:v.toNat % n=k:=by
    have:((v.toNat % n:Nat):Int)=v % (D.length:Int):=by rw[Hy,Int.natCast_emod,Int.toNat_of_nonneg Hj.1]
    omega
   rw[HM] at hu;have H2:k<n:=by omega
   rw[hk];have H3:(D.set i (D.getD k 0)).length=n:=by rw[List.length_set,Hy]
   have HP:swp D i k=(D.set i (D.getD k 0)).set k (D.getD i 0):=rfl;refine z4t xk (Tryz.f4.body.getD .skip) ⟨LT cs ms w R ps A++[(14,.lf (.osl 4)),(16,vI (i:Int))],[(4,.sl 3 (.int .i64) ((D.set i (D.getD k 0)).set k (D.getD i 0)))],5⟩ rfl 16 rfl ?_ ?_
   ·(refine q7 0 xk rfl rfl (q7 1 xk rfl rfl (q7 2 xk rfl rfl (q7 3 xk rfl rfl (q7 4 xk rfl rfl (q7 5 xk rfl rfl (q7 6 xk rfl rfl (q7 8 xk rfl rfl (q7 9 xk rfl rfl (q7 10 xk rfl rfl (j3 7 xk rfl rfl (j3 11 xk rfl rfl (j3 12 xk rfl rfl (zU 13 xk rfl rfl ?_)))))))))))));refine zK4 ?_;refine w4 ?_;refine q7 14 xk rfl rfl (zU 15 xk rfl rfl ?_);refine zK4 ?_;refine w4 ?_;refine q0b xk StF.nil ?_;(exact zJ))
   rw[← HP,← hu];refine zK0 ?_;exact⟨i+1,by exact zJ,by omega,by omega⟩
  clear hc hu;obtain⟨o,ho,rfl⟩:=Ha D hH;have c22:=c22 o ho;subst hn;have hC:roundsR (crs ps) 60 (plR ps (o.map stk))=(rdM bt R.length o).map (List.map stk):=by have:=z6r (P:=PO bt R.length o) PO_irr hD ho (PO_lin ho) 60;rw[PO_crs ho,← hU] at this;exact this
  rw[hC] at c22;have r1:=z6y (bt:=bt) (n:=R.length) (o:=o);have r2:=fun c (h:c<R.length)=>rdM_all (bt:=bt) (o:=o) hD h;have r3:=fun(r:List Nat) (hr:r∈rdM bt R.length o) (a c:Nat) (ha:a∈r) (hc:c∈r) h=>z6z (bt:=bt) ho hr ha hc h;have r4:=rdM_many (bt:=bt) ho hD;have r5:(rdM bt R.length o).length≤60:=z3b 60;generalize rdM bt R.length o=Rd at c22 r1 r2 r3 r4 r5
  (refine q57 [4] [1,2,4,5,6,7,14] rfl ?_)
  (repeat (first|refine zs rfl ?_|refine zg rfl rfl rfl ?_|refine zd ?_|refine w9 ?_|refine w7 ?_|refine zc rfl (c22) rfl rfl ?_|refine ze rfl (c22) rfl ?_|refine zk rfl rfl (fun _=>c22) rfl rfl ?_))
  refine z5 rfl (fun h=>absurd h (by decide)) (fun _=>?_);clear c22 Ha hH hZ hu Hi ho hC h9 hU hw HE;refine zK0 ?_;refine JK.loop (fun i:Nat=>⟨LU cs ms R A Rd++[(20,vI (bitsQ (Rd.take i).flatten:Nat)),(21,vI (i:Int))],[],5⟩) (fun i=>i≤Rd.length) (fun i=>Rd.length-i) 0 (yyw _) (by rw[show bitsQ (Rd.take 0).flatten=0 from rfl];exact zJ) fun i hi=>?_;have hJ:(Rd.map (List.map stk)).length=Rd.length:=by simp
  refine zK0 ?_;refine z5 rfl (fun hc=>?_) (fun hc=>?_)
  ·replace hc:=zC hc;have hl:i<Rd.length:=by omega
   obtain⟨rd,hC⟩:∃ rd,Rd[i]=rd:=⟨_,rfl⟩;have hg:(Rd.map (List.map stk)).getD (Int.toNat (i:Int)) (Ty.slice (.int .i64)).dflt=rd.map stk:=by rw[Int.toNat_natCast,yyp,List.getElem?_map,yyv hl,hC];rfl
   have hT:(Rd.take (i+1)).flatten=(Rd.take i).flatten++rd:=by rw[yxg hl,List.flatten_append,hC];simp
   have hf:=fun k (hk:k<rd.length)=>rd_facts (bt:=bt) r1 r3 hl hC hk;have H4:rd.length≤8:=by have h1:=nodup_sub (z:=rd) (a:=List.range R.length) (z3e r1 hl hC) fun c hc=>yyr.2 (r1.1 c (List.mem_flatten.2 ⟨rd,hC▸yy9 hl,hc⟩));rw[List.length_range] at h1;omega
   have Hk:∀ k,bitsQ ((Rd.take i).flatten++rd.take k)<2 ^ R.length:=fun k=>bitsQ_lt fun c hc=>by
    rcases yy3.1 hc with h|h
    ·obtain⟨l,h1,h2⟩:=List.mem_flatten.1 h;exact r1.1 c (List.mem_flatten.2 ⟨l,List.mem_of_mem_take h1,h2⟩)
    ·exact r1.1 c (List.mem_flatten.2 ⟨rd,hC▸yy9 hl,List.mem_of_mem_take h⟩)
   have HQ:2 ^ R.length≤256:=yxo (n:=2) (by decide) hD;have Hl:∀ k,Gl.mkB bt (rd.take k)<4096:=fun k=>mkB_lt (k:=12) fun a _=>hK a;refine zK0 ?_;refine JK.loop (fun k:Nat=>⟨LU cs ms R A Rd++[(20,vI (bitsQ ((Rd.take i).flatten++rd.take k):Nat)),(21,vI (i:Int)),(22,vI (Gl.mkB bt (rd.take k):Nat)),(23,vI (k:Int))],[],5⟩) (fun k=>k≤rd.length) (fun k=>rd.length-k) 0 (yyw _) (by rw[List.take_zero,yxb];exact zJ) fun k hk=>?_;have hf:=hf k;have Hk:=Hk k;have Hl:=Hl k;have Hm:((Rd.map (List.map stk)).getD i []).length=rd.length:=by rw[show(Rd.map (List.map stk)).getD i []=rd.map stk from hg];simp
   have h3:((Rd.map (List.map stk)).getD (Int.toNat (i:Int)) (Ty.slice (.int .i64)).dflt).length=rd.length:=by rw[hg];simp
   refine zK0 ?_;refine z5 rfl (fun he=>?_) (fun he=>?_)
   ·replace he:=zC he;have hy:k<rd.length:=by omega
    obtain⟨f1,f2,f3⟩:=hf hy;have Hz:((Rd.map (List.map stk)).getD (Int.toNat (i:Int)) (Ty.slice (.int .i64)).dflt).getD (Int.toNat (k:Int)) (Ty.int .i64).dflt=((rd.getD k 0:Nat):Int)+1:=by rw[hg,Int.toNat_natCast,yyp,List.getElem?_map,yyv hy,j4 rd hy];rfl
    have Hn:rd.take (k+1)=rd.take k++[rd.getD k 0]:=by rw[yxg hy,j4 rd hy]
    have c20r:=c20 _ f1;have HR:=hK (rd.getD k 0);refine zK5 ?_;have h4:((Rd.map (List.map stk)).getD (Int.toNat (i:Int)) (Ty.slice (.int .i64)).dflt).getD (Int.toNat (k:Int)) (Ty.int .i64).dflt-1=((rd.getD k 0:Nat):Int):=by rw[Hz];omega
    refine q1u (s':=⟨[(2,vSp cs ms),(4,vB false),(5,vRs R),(7,vL A),(18,vLL (Rd.map (List.map stk))),(20,vI (bitsQ ((Rd.take i).flatten++rd.take k):Nat)),(21,vI (i:Int)),(22,vI (Gl.mkB bt (rd.take k):Nat)),(23,vI (k:Int)),(24,vI (rd.getD k 0:Nat))],[],5⟩)
     (JW.same ⟨rfl,rfl,rfl,rfl,rfl,rfl,rfl,rfl,rfl,by show some (vI (((Rd.map (List.map stk)).getD (Int.toNat (i:Int)) (Ty.slice (.int .i64)).dflt).getD (Int.toNat (k:Int)) (Ty.int .i64).dflt-1))=some (vI (rd.getD k 0:Nat));rw[h4],trivial⟩) ?_
    have Ho:bitsQ ((Rd.take i).flatten++rd.take (k+1))=bitsQ ((Rd.take i).flatten++rd.take k) ||| 2 ^ (rd.getD k 0):=by rw[Hn,← yxj,z5n]
    have Hp:Gl.mkB bt (rd.take (k+1))=Gl.mkB bt (rd.take k) ||| bt (rd.getD k 0):=by rw[Hn,mkB_snoc]
    have Hq:(bitsQ ((Rd.take i).flatten++rd.take k)).testBit (rd.getD k 0)=false:=by rw[q7d,decide_eq_false f2]
    clear Hz h4 hg h3 Hm hJ Hn hf f2;generalize rd.getD k 0=r at f1 f3 c20r HR Ho Hp Hq ⊢;generalize bitsQ ((Rd.take i).flatten++rd.take k)=q at Hk Ho Hq ⊢;generalize Gl.mkB bt (rd.take k)=m at Hl Hp f3 ⊢;have HA:(q:Int) / 2 ^ (Int.toNat (r:Int))=((q / 2 ^ r:Nat):Int):=by rw[Int.toNat_natCast];push_cast;rfl
    have H5:0≤(q:Int) / 2 ^ (Int.toNat (r:Int))∧(q:Int) / 2 ^ (Int.toNat (r:Int))≤256:=by rw[HA];have:=Nat.div_le_self q (2 ^ r);generalize q / 2 ^ r=d at this;omega
    have HT:(((((q:Int) / 2 ^ (Int.toNat (r:Int))).toNat &&& ((1:Int)).toNat:Nat):Int)==1)=false:=by
     rw[HA,Int.toNat_natCast,show((1:Int)).toNat=1 from rfl,Nat.and_one_is_mod];rw[Nat.testBit_eq_decide_div_mod_eq,decide_eq_false_iff_not] at Hq;have:q / 2 ^ r % 2=0:=by omega
     rw[this];rfl
    have HU:(((((bt r:Nat):Int).toNat &&& ((m:Nat):Int).toNat:Nat):Int) != 0)=false:=by rw[Int.toNat_natCast,Int.toNat_natCast,f3];rfl
    have HV:(bif decide ((r:Int)<0) then true else decide ((R.length:Int)≤(r:Int)))=false:=by
     have h1:¬ (r:Int)<0:=by omega
     have h2:¬ (R.length:Int)≤(r:Int):=by omega
     simp[h1,h2]
    refine zK12 ?_;refine z5 rfl (fun h=>absurd h ?_) (fun _=>?_)
    ·show ¬ ((bif (bif (bif decide ((r:Int)<0) then true else decide ((R.length:Int)≤(r:Int))) then true else(((((q:Int) / 2 ^ (Int.toNat (r:Int))).toNat &&& ((1:Int)).toNat:Nat):Int)==1)) then true else(((((bt r:Nat):Int).toNat &&& ((m:Nat):Int).toNat:Nat):Int) != 0))=true);rw[HV,HT,HU];simp
    have HW:1≤(2:Int) ^ (Int.toNat (r:Int))∧(2:Int) ^ (Int.toNat (r:Int))≤256:=by
     rw[Int.toNat_natCast];have h1:2 ^ r≤2 ^ 8:=yxo (by decide) (by omega);have h2:1≤2 ^ r:=Nat.one_le_two_pow;have e:(2:Int) ^ r=((2 ^ r:Nat):Int):=by push_cast;rfl
     rw[e];omega
    refine zK12 ?_;have e1:((Gl.mkB bt (rd.take (k+1)):Nat):Int)=((((m:Nat):Int).toNat ||| ((bt r:Nat):Int).toNat:Nat):Int):=by rw[Hp,Int.toNat_natCast,Int.toNat_natCast]
    have e2:((bitsQ ((Rd.take i).flatten++rd.take (k+1)):Nat):Int)=((((q:Nat):Int).toNat ||| ((1:Int)*2 ^ (Int.toNat (r:Int))).toNat:Nat):Int):=by rw[Ho,Int.toNat_natCast,Int.toNat_natCast,Cb.one_pow]
    refine⟨k+1,?_,by omega,by omega⟩;dsimp only;rw[e1,e2];exact zJ
   ·replace he:=zC he;have HY:k=rd.length:=by omega
    rw[HY,yxr,← hT];refine zK0 ?_;exact⟨i+1,by exact zJ,by omega,by omega⟩
  ·replace hc:=zC hc;have HC:i=Rd.length:=by omega
   have hb:bitsQ (Rd.take i).flatten=2 ^ R.length-1:=by rw[HC,yxr];exact z5o r2 r1.1
   rw[hb];clear hb r1 r2 r3 HC hc;refine zK0 ?_;refine JK.loop (fun i:Nat=>⟨LU cs ms R A Rd++[(20,vI ((2 ^ R.length-1:Nat):Int)),(25,vI (i:Int))],[],5⟩) (fun i=>i≤A.length) (fun i=>A.length-i) 0 (yyw _) (by exact zJ) fun i hi=>?_;refine zK0 ?_;refine z5 rfl (fun hc=>?_) (fun hc=>?_)
   ·replace hc:=zC hc;have hl:i<A.length:=by omega
    have hge:¬ (((Rd.map (List.map stk)).length:Nat):Int)<A.getD (Int.toNat (i:Int)) (Ty.int .i64).dflt:=by have h1:A.getD (Int.toNat (i:Int)) (Ty.int .i64).dflt=((manyM bt R.length i:Nat):Int):=Hf i (by omega);have h2:=r4 i;rw[h1,hJ];omega
    refine zK0 ?_;refine z5 rfl (fun h=>absurd (of_decide_eq_true h) hge) (fun _=>?_);refine zK0 ?_;exact⟨i+1,by exact zJ,by omega,by omega⟩
   ·clear hc;have HW:1≤(2:Int) ^ (Int.toNat (R.length:Int))∧(2:Int) ^ (Int.toNat (R.length:Int))≤256:=by
     rw[Int.toNat_natCast];have h1:2 ^ R.length≤2 ^ 8:=yxo (by decide) hD;have h2:1≤2 ^ R.length:=Nat.one_le_two_pow;have e:(2:Int) ^ R.length=((2 ^ R.length:Nat):Int):=by push_cast;rfl
     rw[e];omega
    have hE:(((2 ^ R.length-1:Nat):Int)==(1:Int)*2 ^ (Int.toNat (R.length:Int))-1)=true:=by
     rw[Int.toNat_natCast,Int.one_mul];have h2:1≤2 ^ R.length:=Nat.one_le_two_pow;have e:(2:Int) ^ R.length=((2 ^ R.length:Nat):Int):=by push_cast;rfl
     rw[e,beq_iff_eq];omega
    refine zK0 ?_;refine z5u rfl ?_ rfl Hb hz rfl trivial ?_
    ·show wantB true (((2 ^ R.length-1:Nat):Int)==(1:Int)*2 ^ (Int.toNat (R.length:Int))-1)=true;rw[hE];rfl
    refine zK0 ?_;refine zR rfl trivial ?_;show vB (bif (((2 ^ R.length-1:Nat):Int)==(1:Int)*2 ^ (Int.toNat (R.length:Int))-1) then true else false)=vB true;rw[hE];rfl
end Go.Proofs.YtjecebccchhmhaaGreatDoor
namespace Go.Proofs.YtjecebccchhmhaaGreatDoor
open Go Go.RowKit Ox Ox.Rn
attribute [local irreducible] JC JL JK JW
variable {gs:List Gt}
def works03(h1:FnZ (Laid gs) Tryz.prog 45 (.bool true))(h2:FnZ (Laid gs) Tryz.prog 46 (.bool true))(h3:FnZ (Laid gs) Tryz.prog 47 (.bool true)):FnZ (Laid gs) Tryz.prog 17 (.bool true):=by refine FnL.toZ (r:=vB true) rfl (Ox.FnX.intro xok Tryz.func17 rfl Tryz.call17 (yyd rfl) (fun E M0 up hz=>?_));refine JK.start ?_;refine zK0 ?_;refine JK.callZ rfl h1 hz rfl trivial ?_;refine zK0 ?_;refine z1j rfl rfl rfl h2 hz rfl trivial ?_;refine zK0 ?_;refine z1j rfl rfl rfl h3 hz rfl trivial ?_;refine zK0 ?_;refine zR rfl trivial ?_;rfl
end Go.Proofs.YtjecebccchhmhaaGreatDoor
