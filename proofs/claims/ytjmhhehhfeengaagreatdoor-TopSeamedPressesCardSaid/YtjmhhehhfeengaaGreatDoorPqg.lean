/- Texts of the proof of the statement that the last text proves. -/
import Derived.Test.YtjmhhehhfeengaaGreatDoorPqf
set_option linter.all false
set_option maxHeartbeats 2000000
variable{P c most one two x:Int}{mo:List (List Int)}{X Y cs xs:List Int}{is o row s:List Nat}{N clk i j k m n q:Nat}{f:Go.FuncId}{g:Nat→Int}{α:Type}{ty:Go.TypeId}
namespace Go.Proofs.YtjmhhehhfeengaaGreatDoor
open Go Go.RowKit Ox Ox.Sh Ox.Se
attribute [local irreducible] JC JL JK JW
attribute [local irreducible] ovA stA pkV
def clK(P:Int)(l:List Pt)(T:Nat→Option WD):Nat→Int×Int×Int
 |0=>(-1,0,0)
 |k+1=>match T k with
  |none=>clK P l T k
  |some w=>if (clK P l T k).1<0∨w.1+gp P l k 0<(clK P l T k).2.1 then((k:Int),w.1+gp P l k 0,w.2.1) else if w.1+gp P l k 0=(clK P l T k).2.1 then((clK P l T k).1,(clK P l T k).2.1,(clK P l T k).2.2+w.2.1) else clK P l T k
def clK_bd{P:Int}{l:List Pt}{T:Nat→Option WD}(hb:∀ k w,T k=some w→wB 8 16777216 w):∀ k,0≤(clK P l T k).2.2∧(clK P l T k).2.2≤16777216*k
 |0=>⟨Int.le_refl _,Int.le_refl _⟩
 |k+1=>by
  obtain⟨h1,h2⟩:=clK_bd (P:=P) (l:=l) hb k;rw[clK];split
  ·push_cast;omega
  ·rename_i w hw;obtain⟨_,⟨b1,b2⟩,_⟩:=hb k w hw;split
   ·dsimp only;push_cast;omega
   ·split
    ·dsimp only;push_cast;omega
    ·push_cast;omega
variable{l:List Pt}
set_option maxHeartbeats 8000000 in
def z30(hz:seE P l=0){T:Tb}(hb:∀ k w,T (2 ^ l.length-1) k=some w→wB 8 16777216 w){es:List EnW}(htg:TG es clk T)
  {E:World} {M0 M1:Mem} {n:Nat} {up up1:Nat→Nat→Value} {rg:Nat} {R:AV→List (Nat×AV)→List (Nat×HO)→Nat→Prop}
  (hR:R (.tup (.acons (vI (clK P l (T (2 ^ l.length-1)) l.length).1) (.acons (vI (clK P l (T (2 ^ l.length-1)) l.length).2.2) .anil))) [(rg,.lf (.mp 1)),(0,vH P l)] [(1,.map kyT wyT es clk)] 3) :
  JK (Ctx.sub ⟨Tryz.prog,tys,ets,mts,E,M0,n,none,up,0⟩ M1 Tryz.f44.ntmps none up1) [.code (Tryz.f44.body.getD .skip)]
   (inlQ ⟨Tryz.prog,tys,ets,mts,E,M0,n,none,up,0⟩ Tryz.f44.results.toList R) ⟨[(0,vH P l),(1,.lf (.mp 1))],[(2,.fr 0 [(rg,.lf (.mp 1)),(0,vH P l)]),(1,.map kyT wyT es clk)],3⟩:=by
 obtain⟨hP,h1,h8,hl⟩:=q4l.1 hz;refine j3z (fn:=Tryz.f44) rfl ?_;have c77:=fn19 P l h8;refine zK2 ?_;refine JK.loop (fun k:Nat=>⟨[(0,vH P l),(1,.lf (.mp 1)),(6,vI (clK P l (T (2 ^ l.length-1)) k).1),(7,vI (clK P l (T (2 ^ l.length-1)) k).2.1),(8,vI (clK P l (T (2 ^ l.length-1)) k).2.2),(18,vI l.length),(19,vI (k:Int))],[(2,.fr 0 [(rg,.lf (.mp 1)),(0,vH P l)]),(1,.map kyT wyT es clk)],3⟩)
  (fun k=>k≤l.length) (fun k=>l.length-k) 0 (yy7 _) (by exact zJ) fun k hk=>?_
 have hfin:k=l.length→clK P l (T (2 ^ l.length-1)) k=clK P l (T (2 ^ l.length-1)) l.length:=fun e=>by rw[e]
 have hcb:=clK_bd (P:=P) (l:=l) hb k;have hks:clK P l (T (2 ^ l.length-1)) (k+1)=match T (2 ^ l.length-1) k with
  |none=>clK P l (T (2 ^ l.length-1)) k
  |some w=>if (clK P l (T (2 ^ l.length-1)) k).1<0∨w.1+gp P l k 0<(clK P l (T (2 ^ l.length-1)) k).2.1 then((k:Int),w.1+gp P l k 0,w.2.1) else if w.1+gp P l k 0=(clK P l (T (2 ^ l.length-1)) k).2.1 then((clK P l (T (2 ^ l.length-1)) k).1,(clK P l (T (2 ^ l.length-1)) k).2.1,(clK P l (T (2 ^ l.length-1)) k).2.2+w.2.1) else clK P l (T (2 ^ l.length-1)) k:=rfl
 generalize clK P l (T (2 ^ l.length-1)) k=c at hks hcb hfin ⊢;obtain⟨c1,c2,c3⟩:=c;dsimp only at hks hcb ⊢;refine zK2 ?_;refine q7 rfl (fun hc=>?_) (fun hc=>?_)
 ·replace hc:=zC hc;have hk':k<l.length:=by omega
  have c65:=fn47 P l k 0 hP hl hk' (by omega);have hgb:=z1r (l:=l) hP.1 k 0;generalize gp P l k 0=g at c65 hgb hks;have hb1:=hb k;have htn:=fun e=>htg.none (q:=2 ^ l.length-1) (m:=k) e;have hts:=fun w e=>htg.some (q:=2 ^ l.length-1) (m:=k) (w:=w) e;generalize T (2 ^ l.length-1) k=o at hks hb1 htn hts;have hal:2 ^ l.length-1≤256:=by have:2 ^ l.length≤256:=yyy (n:=2) (by omega) h8;omega
  generalize 2 ^ l.length-1=A at c77 htn hts hal hks ⊢;refine zK14 ?_;cases o with
  |none=>have hh:=htn rfl;rw[hh];refine q7 rfl (fun _=>?_) (fun h=>by cases h);refine zK2 ?_;refine⟨k+1,?_,by omega,by omega⟩;rw[hks];exact zJ
  |some w=>
   obtain⟨hh,hg2⟩:=hts w rfl;obtain⟨⟨d1,d2⟩,⟨d3,d4⟩,d5,d6⟩:=hb1 w rfl;rw[hh,hg2];obtain⟨w1,w2,w3,⟨⟩⟩:=w;dsimp only at d1 d2 d3 d4 d5 d6 hks;refine q7 rfl (fun h=>by cases h) (fun _=>?_)
   (repeat (first|refine zs rfl ?_|refine zg rfl rfl rfl ?_|refine zd ?_|refine j6 ?_|refine j5 ?_|refine zmo mpW rfl rfl rfl rfl ?_|refine zmi mpW rfl rfl rfl rfl ?_|refine zmu mpW rfl rfl rfl rfl ?_|refine zmd mpW rfl rfl rfl ?_|refine zmr mpW rfl rfl rfl ?_|refine zmm mpW rfl ?_|refine zeq eqK rfl rfl rfl ?_|refine zne eqK rfl rfl rfl ?_|refine zc rfl (c65) rfl rfl ?_|refine ze rfl (c65) rfl ?_|refine zk rfl rfl (fun _=>c65) rfl rfl ?_))
   refine q7 rfl (fun hm=>?_) (fun hm=>?_)
   ·have hm':c1<0∨w1+g<c2:=by
     have h2:(bif decide (c1<0) then true else decide (w1+g<c2))=true:=hm;by_cases e:c1<0
     ·exact .inl e
     ·rw[decide_eq_false e] at h2;exact .inr (of_decide_eq_true h2)
    rw[if_pos hm'] at hks;refine zK2 ?_;refine⟨k+1,?_,by omega,by omega⟩;rw[hks];exact zJ
   ·have hm':¬ (c1<0∨w1+g<c2):=by
     have h2:(bif decide (c1<0) then true else decide (w1+g<c2))=false:=hm;rintro(e|e)
     ·rw[decide_eq_true e] at h2;cases h2
     ·rw[decide_eq_true e] at h2;by_cases e2:c1<0
      ·rw[decide_eq_true e2] at h2;cases h2
      ·rw[decide_eq_false e2] at h2;cases h2
    rw[if_neg hm'] at hks;refine zK2 ?_;refine q7 rfl (fun hn=>?_) (fun hn=>?_)
    ·replace hn:=zC hn;rw[if_pos hn] at hks;refine zK2 ?_;refine⟨k+1,?_,by omega,by omega⟩;rw[hks];exact zJ
    ·replace hn:=zC hn;rw[if_neg hn] at hks;refine zK2 ?_;refine⟨k+1,?_,by omega,by omega⟩;rw[hks];exact zJ
 ·replace hc:=zC hc;have hf:=hfin (by omega);rw[← hf] at hR;refine zK2 ?_;refine z1o rfl rfl rfl rfl ?_;exact hR
def cntT(P:Int)(l:List Pt):Int×Int×Int:=clK P l (mLp P l (msT P l) (2 ^ (l.length-1)) (2 ^ l.length-1)) l.length
def j4r(h1:1≤l.length):(2 ^ l.length-1) % 2=1:=by obtain⟨k,hk⟩:∃ k,l.length=k+1:=⟨l.length-1,by omega⟩;rw[hk,Nat.pow_succ];have:=Nat.one_le_two_pow (n:=k);omega
def z97(h1:1≤l.length)(h8:l.length≤8)(m:Nat):mLp P l (msT P l) (2 ^ (l.length-1)) (2 ^ l.length-1) m=prn (msT P l) (ent P l (msT P l) (2 ^ l.length-1) m):=by have:=Nat.one_le_two_pow (n:=l.length);exact z96 h8 h1 m (j4r h1) (by omega)
def z6l{o:Option WD}{w:WD}(h:prn most o=some w):o=some w∧w.1≤most:=by
 unfold prn at h;split at h
 ·cases h
 ·split at h
  ·cases h
  ·rename_i c;have:=Option.some.inj h;subst this;exact⟨rfl,by omega⟩
def tab_bd(hP:1≤P∧P≤1000)(h1:1≤l.length)(h8:l.length≤8)(k:Nat)(w:WD)(h:mLp P l (msT P l) (2 ^ (l.length-1)) (2 ^ l.length-1) k=some w):wB 8 16777216 w:=by rw[z97 h1 h8] at h;have:2 ^ l.length≤256:=yyy (n:=2) (by omega) h8;exact z5u hP (by omega) (z6l h).1
def z2e{X:Ctx}{fn:Func}{c:Code}{Q:Exit→S→Prop}{s:S}(hb:fn.body=some c)(k:JK X [.code (fn.body.getD .skip)] Q s):JK X [.code c] Q s:=by rw[hb] at k;exact k
set_option maxHeartbeats 4000000 in
def fn205(P:Int)(l:List Pt)(hz:seE P l=0):Ox.Fn Tryz.prog 205 (.acons (vH P l) .anil) (·=vI (cntT P l).2.2):=by obtain⟨hP,h1,h8,hl⟩:=q4l.1 hz;refine Ox.Fn.intro xok Tryz.func205 rfl Tryz.call205 (yyc rfl) (fun E M0 up=>?_);refine z5 ?_;refine zK2 ?_;refine JK.inl [6,0] rfl rfl trivial Tryz.func43 rfl Tryz.call43 (yyc rfl) rfl fun M1 up1=>?_;refine z2e (fn:=Tryz.f43) rfl ?_;show JK _ _ _ ⟨[(0,vH P l)],[(0,.fr 0 [(6,vH P l),(0,vH P l)])],1⟩;refine j0p (rg:=6) hz fun es clk htg=>?_;refine JK.inl [8,0] rfl rfl trivial Tryz.func44 rfl Tryz.call44 (yyc rfl) rfl fun M2 up2=>?_;refine z2e (fn:=Tryz.f44) rfl ?_;show JK _ _ _ ⟨[(0,vH P l),(1,.lf (.mp 1))],[(2,.fr 0 [(8,.lf (.mp 1)),(0,vH P l)]),(1,.map kyT wyT es clk)],3⟩;refine z30 (rg:=8) hz (tab_bd hP h1 h8) htg ?_;refine zK2 ?_;refine⟨.inl rfl,_,_,rfl,trivial,?_⟩;rfl
end Go.Proofs.YtjmhhehhfeengaaGreatDoor
namespace Go.Proofs.YtjmhhehhfeengaaGreatDoor
open Go Go.RowKit Ox Ox.Sh Ox.Se
section
variable (P:Int)(l:List Pt)
def wR:List Nat→Int
 |[]=>0
 |[_]=>0
 |m::i::r=>wR (i::r)+gp P l i m
def pthA:Nat→Nat→Nat→List (List Nat)
 |0,_,_=>[]
 |f+1,q,m=>if q=1∧m=0 then [[0]] else if m≠0∧q.testBit m=true then(bitsL (q ^^^ 2 ^ m)).flatMap fun i=>(pthA f (q ^^^ 2 ^ m) i).map (m::·) else []
def pth(q m:Nat):List (List Nat):=pthA 256 q m
end
def z29:∀ (f q m:Nat),q<f→pthA f q m=pthA (f+1) q m
 |0,q,m,h=>by omega
 |f+1,q,m,h=>by
  rw[pthA,pthA];split
  ·rfl
  ·split
   ·rename_i c;have hlt:=q4o c.2;have:∀ i,pthA f (q ^^^ 2 ^ m) i=pthA (f+1) (q ^^^ 2 ^ m) i:=fun i=>z29 f _ i (by omega);simp only[this]
   ·rfl
def z28(m:Nat)(h:q<256):pth q m=if q=1∧m=0 then [[0]] else if m≠0∧q.testBit m=true then(bitsL (q ^^^ 2 ^ m)).flatMap fun i=>(pth (q ^^^ 2 ^ m) i).map (m::·) else []:=by unfold pth;rw[z29 256 q m h,pthA]
def q15(h:q<256)(hs:s∈pth q m):∃ r,s=m::r:=by
 rw[z28 m h] at hs;split at hs
 ·rename_i c;rw[yyl] at hs;exact⟨[],by rw[hs,c.2]⟩
 ·split at hs
  ·obtain⟨i,_,hs⟩:=List.mem_flatMap.1 hs;obtain⟨r,_,rfl⟩:=yy0.1 hs;exact⟨r,rfl⟩
  ·cases hs
def mask_ext{a b:Nat}(h:∀ i,a.testBit i=true↔b.testBit i=true):a=b:=Nat.eq_of_testBit_eq fun i=>yy5.2 (h i)
def z44{x:Nat}:(1:Nat).testBit x=true↔x=0:=by have h1:=Nat.testBit_two_pow (n:=0) (m:=x);rw[Nat.pow_zero] at h1;rw[h1,decide_eq_true_iff];exact⟨fun h=>h.symm,fun h=>h.symm⟩
def z9v{q m x:Nat}(h:q.testBit m=true):(q ^^^ 2 ^ m).testBit x=true↔q.testBit x=true∧x≠m:=by
 rw[Nat.testBit_xor,Nat.testBit_two_pow];by_cases e:m=x
 ·subst e;rw[h];simp
 ·rw[decide_eq_false e,Bool.xor_false];exact⟨fun h=>⟨h,fun h'=>e h'.symm⟩,fun h=>h.1⟩
def z4x:∀ {q m:Nat},q<256→∀ {s:List Nat},s∈pth q m↔(∃ r,s=m::r)∧s.getLast?=some 0∧s.Nodup∧∀ x,x∈s↔q.testBit x=true:=by
 intro q m hq s;induction s generalizing q m with
 |nil=>
  constructor
  ·intro h;obtain⟨r,hr⟩:=q15 hq h;cases hr
  ·rintro⟨⟨r,hr⟩,_⟩;cases hr
 |cons a r ih=>
  rw[z28 m hq];by_cases c0:q=1∧m=0
  ·rw[if_pos c0];obtain⟨rfl,rfl⟩:=c0;rw[yyl];constructor
   ·intro h;rw[h];refine⟨⟨[],rfl⟩,rfl,by simp,fun x=>?_⟩;rw[yyl,z44]
   ·rintro⟨⟨r',hr⟩,h2,h3,h4⟩;obtain⟨rfl,rfl⟩:=List.cons.inj hr;cases r with
    |nil=>rfl
    |cons b r=>have:=z44.1 ((h4 b).1 (by simp));subst this;exact absurd yyg (yxh.1 h3).1
  ·rw[if_neg c0];by_cases c1:m≠0∧q.testBit m=true
   ·rw[if_pos c1];have hlt:=q4o c1.2;constructor
    ·intro h;obtain⟨i,hi,h⟩:=List.mem_flatMap.1 h;obtain⟨r',hr',e⟩:=yy0.1 h;obtain⟨rfl,rfl⟩:=List.cons.inj e;obtain⟨⟨r2,e2⟩,h2,h3,h4⟩:=(ih (q:=q ^^^ 2 ^ m) (m:=i) (by omega)).1 hr';refine⟨⟨_,rfl⟩,?_,yxh.2 ⟨fun hm=>?_,h3⟩,fun x=>?_⟩
     ·rw[e2] at h2 ⊢;rw[List.getLast?_cons_cons];exact h2
     ·have:=(h4 m).1 hm;rw[z0x c1.2] at this;cases this
     ·rw[yyk,h4,z9v c1.2];constructor
      ·rintro(rfl|h)
       ·exact c1.2
       ·exact h.1
      ·intro h;by_cases e:x=m
       ·exact .inl e
       ·exact .inr ⟨h,e⟩
    ·rintro⟨⟨r',hr⟩,h2,h3,h4⟩;obtain⟨rfl,rfl⟩:=List.cons.inj hr;cases r with
     |nil=>
      have:a=0:=by simpa using h2
      exact absurd this c1.1
     |cons i r=>
      obtain⟨n1,n2⟩:=yxh.1 h3;have h4':∀ x,x∈i::r↔(q ^^^ 2 ^ a).testBit x=true:=fun x=>by
       rw[z9v c1.2,← h4,yyk (a:=x) (b:=a)];constructor
       ·intro h;exact⟨.inr h,fun e=>n1 (e▸h)⟩
       ·rintro⟨h|h,hne⟩
        ·exact absurd h hne
        ·exact h
      have hi:=(h4' i).1 yyg;refine List.mem_flatMap.2 ⟨i,x5.2 ⟨q9d (N:=8) (by omega) hi,hi⟩,yy0.2 ⟨i::r,(ih (by omega)).2 ⟨⟨r,rfl⟩,?_,n2,h4'⟩,rfl⟩⟩;rw[List.getLast?_cons_cons] at h2;exact h2
   ·rw[if_neg c1];constructor
    ·intro h;cases h
    ·rintro⟨⟨r',hr⟩,h2,h3,h4⟩;obtain⟨rfl,rfl⟩:=List.cons.inj hr;have hb:=(h4 a).1 yyg;have ha:a=0:=yxq fun e=>c1 ⟨e,hb⟩;subst ha;exfalso;cases r with
     |nil=>refine c0 ⟨mask_ext fun i=>?_,rfl⟩;rw[← h4,yyl,z44]
     |cons b r=>rw[List.getLast?_cons_cons] at h2;exact(yxh.1 h3).1 (List.mem_of_getLast? h2)
def pth_nd:∀ (q m:Nat),q<256→(pth q m).Nodup:=by
 intro q;induction q using Nat.strongRecOn with
 |_ q ih=>
  intro m hq;rw[z28 m hq];split
  ·simp
  ·split
   ·rename_i c;have hlt:=q4o c.2;show List.Pairwise (·≠·) _;rw[List.pairwise_flatMap];refine⟨fun i hi=>?_,?_⟩
    ·rw[List.pairwise_map];exact(ih _ hlt i (by omega)).imp fun h e=>h (List.cons.inj e).2
    ·refine(z2g _).imp fun {i j} hij x hx y hy e=>hij ?_;obtain⟨a,ha,rfl⟩:=yy0.1 hx;obtain⟨b,hb,rfl⟩:=yy0.1 hy;have:=(List.cons.inj e).2;subst this;obtain⟨r1,e1⟩:=q15 (by omega) ha;obtain⟨r2,e2⟩:=q15 (by omega) hb;rw[e1] at e2;exact(List.cons.inj e2).1
   ·exact yx2
structure Ok(P:Int)(l:List Pt)(most:Int)(e:Option WD)(F:List (List Nat)):Prop where
 a:∀ w,e=some w→∃ s∈F,wR P l s=w.1
 b:∀ s∈F,wR P l s≤most→∃ w,e=some w∧w.1≤wR P l s
 c:∀ w,e=some w→w.1≤most→w.2.1=((F.countP fun s=>decide (wR P l s=w.1):Nat):Int)
def ciE(most:Int)(g:Nat→Int)(e:Nat→Option WD)(x:Int)(i:Nat):Int:=match e i with
 |none=>0
 |some v=>if v.1≤most∧v.1+g i=x then v.2.1 else 0
structure Fo(most:Int)(g:Nat→Int)(e:Nat→Option WD)(is:List Nat)(x c:Int):Prop where
 ex:∃ i∈is,∃ v,e i=some v∧v.1≤most∧v.1+g i=x
 mn:∀ i∈is,∀ v,e i=some v→v.1≤most→x≤v.1+g i
 ct:c=sm (ciE most g e x) is
def z4p{α:Type}(f:Nat→Nat):∀ is:List Nat,((is.map f).sum:Int)=sm (fun i=>(f i:Int)) is
 |[]=>rfl
 |i::is=>by rw[yy4,List.sum_cons,v9,← z4p (α:=α) f is];push_cast;rfl
def q13{f g:Nat→Int}:∀ {is:List Nat},(∀ i∈is,f i=g i)→sm f is=sm g is
 |[],_=>rfl
 |i::is,h=>by rw[v9,v9,h i yyg,q13 fun j hj=>h j (yyh _ hj)]
variable{l:List Pt}
def Fo.count{e:Nat→Option WD}{F:Nat→List (List Nat)}(h:Fo most g e is x c)(hg:∀ i,0≤g i)(hF:∀ i∈is,Ok P l most (e i) (F i))(hx:x≤most) :
  c=sm (fun i=>(((F i).countP fun s=>decide (wR P l s+g i=x):Nat):Int)) is:=by
 rw[h.ct];refine q13 fun i hi=>?_;have hk:=hF i hi;have hz:(∀ v,e i=some v→v.1≤most→v.1+g i≠x)→(F i).countP (fun s=>decide (wR P l s+g i=x))=0:=fun hno=>by rw[List.countP_eq_zero];intro s hs hd;have hd':=of_decide_eq_true hd;have:=hg i;obtain⟨v,hv,hle⟩:=hk.b s hs (by omega);have:=h.mn i hi v hv (by omega);exact hno v hv (by omega) (by omega)
 unfold ciE;cases hv:e i with
 |none=>rw[hz (fun v h=>by rw[hv] at h;cases h)];rfl
 |some v=>
  dsimp only;split
  ·rename_i c;rw[hk.c v hv c.1];congr 2;funext s;exact decide_eq_decide.2 ⟨fun h=>by omega,fun h=>by omega⟩
  ·rename_i c;rw[hz (fun u hu h1 h2=>by rw[hv] at hu;have:=Option.some.inj hu;subst this;exact c ⟨h1,h2⟩)];rfl
section
variable {P:Int}{l:List Pt}{most:Int}
variable{e:Nat→Option WD}
def ci_zero{x y:Int}(hm:∀ i∈is,∀ v,e i=some v→v.1≤most→x≤v.1+g i)(h:y<x):sm (ciE most g e y) is=0:=by
 have:sm (ciE most g e y) is=sm (fun _=>(0:Int)) is:=q13 fun i hi=>by
  unfold ciE;split
  ·rfl
  ·rename_i v hv;rw[if_neg];rintro⟨h1,h2⟩;have:=hm i hi v hv h1;omega
 rw[this];clear this hm;induction is with
 |nil=>rfl
 |cons i is ih=>rw[v9,ih];omega
def Fo.snoc(h:Fo most g e is x c) :
  (∀ v,e i=some v→v.1≤most→x<v.1+g i)→Fo most g e (is++[i]) x c:=fun hi=>by
 refine⟨?_,fun j hj v hv hv2=>?_,?_⟩
 ·obtain⟨j,hj,r⟩:=h.ex;exact⟨j,yxm _ hj,r⟩
 ·rcases yy2.1 hj with hj|hj
  ·exact h.mn j hj v hv hv2
  ·rw[yyl.1 hj] at hv ⊢;have:=hi v hv hv2;omega
 ·rw[q92,← h.ct,v9];have:ciE most g e x i=0:=by
   unfold ciE;split
   ·rfl
   ·rename_i v hv;rw[if_neg];rintro⟨h1,h2⟩;have:=hi v hv h1;omega
  rw[this];have:sm (ciE most g e x) []=0:=rfl;omega
def Fo.same{v:WD}(h:Fo most g e is x c)(hv:e i=some v)(h1:v.1≤most)(h2:v.1+g i=x):Fo most g e (is++[i]) x (c+v.2.1):=by
 refine⟨⟨i,by simp,v,hv,h1,h2⟩,fun j hj u hu hu2=>?_,?_⟩
 ·rcases yy2.1 hj with hj|hj
  ·exact h.mn j hj u hu hu2
  ·rw[yyl.1 hj,hv] at hu;have:=Option.some.inj hu;subst this;rw[yyl.1 hj];omega
 ·rw[q92,← h.ct,v9];have:ciE most g e x i=v.2.1:=by unfold ciE;rw[hv];exact if_pos ⟨h1,h2⟩
  rw[this];have:sm (ciE most g e x) []=0:=rfl;omega
def j5r{v:WD}(hm:∀ j∈is,∀ u,e j=some u→u.1≤most→v.1+g i<u.1+g j)(hv:e i=some v)(h1:v.1≤most):Fo most g e (is++[i]) (v.1+g i) v.2.1:=by
 refine⟨⟨i,by simp,v,hv,h1,rfl⟩,fun j hj u hu hu2=>?_,?_⟩
 ·rcases yy2.1 hj with hj|hj
  ·have:=hm j hj u hu hu2;omega
  ·rw[yyl.1 hj,hv] at hu;have:=Option.some.inj hu;subst this;rw[yyl.1 hj];omega
 ·rw[q92,v9];have e1:ciE most g e (v.1+g i) i=v.2.1:=by unfold ciE;rw[hv];exact if_pos ⟨h1,rfl⟩
  have e2:=ci_zero (most:=most) (g:=g) (e:=e) (x:=v.1+g i+1) (y:=v.1+g i) (is:=is) (fun j hj u hu hu2=>by have:=hm j hj u hu hu2;omega) (by omega);rw[e1,e2];have:sm (ciE most g e (v.1+g i)) []=0:=rfl;omega
def z7i{e:Nat→Option WD}{m:Nat}:∀ (js is:List Nat) (cur:Option WD),
  (match cur with|none=>∀ i∈is,∀ v,e i=some v→¬ v.1≤most|some w=>Fo most (fun i=>gp P l i m) e is w.1 w.2.1∧∃ i v,e i=some v∧v.1≤most∧v.1+gp P l i m=w.1∧w.2.2.1=(i:Int)∧i∈is) →
  (match js.foldl (cst P l most e m) cur with|none=>∀ i∈is++js,∀ v,e i=some v→¬ v.1≤most|some w=>Fo most (fun i=>gp P l i m) e (is++js) w.1 w.2.1∧∃ i v,e i=some v∧v.1≤most∧v.1+gp P l i m=w.1∧w.2.2.1=(i:Int)∧i∈is++js)
 |[],is,cur,h=>by rw[yxv];exact h
 |j::js,is,cur,h=>by
  have e1:is++j::js=(is++[j])++js:=by simp
  rw[List.foldl_cons,e1];refine z7i js (is++[j]) _ ?_;unfold cst;cases hv:e j with
  |none=>
   dsimp only;cases cur with
   |none=>
    dsimp only at h ⊢;intro i hi v hv2;rcases yy2.1 hi with hi|hi
    ·exact h i hi v hv2
    ·rw[yyl.1 hi,hv] at hv2;cases hv2
   |some w=>dsimp only at h ⊢;obtain⟨h1,i,v,h2,h3,h4,h5,h6⟩:=h;exact⟨h1.snoc fun v h _=>by(rw[hv] at h;cases h),i,v,h2,h3,h4,h5,yxm _ h6⟩
  |some v=>
   dsimp only;by_cases hp:v.1>most
   ·rw[if_pos hp];cases cur with
    |none=>
     dsimp only at h ⊢;intro i hi u hu;rcases yy2.1 hi with hi|hi
     ·exact h i hi u hu
     ·rw[yyl.1 hi,hv] at hu;have:=Option.some.inj hu;subst this;omega
    |some w=>dsimp only at h ⊢;obtain⟨h1,i,u,h2,h3,h4,h5,h6⟩:=h;refine⟨h1.snoc fun u hu hu2=>?_,i,u,h2,h3,h4,h5,yxm _ h6⟩;rw[hv] at hu;have:=Option.some.inj hu;subst this;omega
   ·rw[if_neg hp];have hp':v.1≤most:=by omega
    cases cur with
    |none=>dsimp only at h ⊢;refine⟨?_,j,v,hv,hp',rfl,rfl,by simp⟩;exact j5r (g:=fun i=>gp P l i m) (fun i hi u hu hu2=>absurd hu2 (h i hi u hu)) hv hp'
    |some w=>
     dsimp only at h;obtain⟨h1,i,u,h2,h3,h4,h5,h6⟩:=h;dsimp only;show Fo most _ e _ (if w.1=v.1+gp P l j m then(v.1+gp P l j m,v.2.1+w.2.1,w.2.2.1,()) else if w.1<v.1+gp P l j m then w else(v.1+gp P l j m,v.2.1,(j:Int),()):WD).1 (if w.1=v.1+gp P l j m then(v.1+gp P l j m,v.2.1+w.2.1,w.2.2.1,()) else if w.1<v.1+gp P l j m then w else(v.1+gp P l j m,v.2.1,(j:Int),()):WD).2.1∧∃ i u,e i=some u∧u.1≤most∧u.1+gp P l i m=(if w.1=v.1+gp P l j m then(v.1+gp P l j m,v.2.1+w.2.1,w.2.2.1,()) else if w.1<v.1+gp P l j m then w else(v.1+gp P l j m,v.2.1,(j:Int),()):WD).1∧(if w.1=v.1+gp P l j m then(v.1+gp P l j m,v.2.1+w.2.1,w.2.2.1,()) else if w.1<v.1+gp P l j m then w else(v.1+gp P l j m,v.2.1,(j:Int),()):WD).2.2.1=(i:Int)∧i∈is++[j];by_cases c1:w.1=v.1+gp P l j m
     ·rw[if_pos c1];dsimp only;refine⟨?_,i,u,h2,h3,by omega,h5,yxm _ h6⟩;have:=h1.same (g:=fun i=>gp P l i m) hv hp' c1.symm;rw[Int.add_comm v.2.1,← c1];exact this
     ·rw[if_neg c1];by_cases c2:w.1<v.1+gp P l j m
      ·rw[if_pos c2];refine⟨h1.snoc fun u hu hu2=>?_,i,u,h2,h3,h4,h5,yxm _ h6⟩;rw[hv] at hu;have:=Option.some.inj hu;subst this;exact c2
      ·rw[if_neg c2];dsimp only;refine⟨?_,j,v,hv,hp',rfl,rfl,by simp⟩;exact j5r (g:=fun i=>gp P l i m) (fun i hi u hu hu2=>by have:=h1.mn i hi u hu hu2;omega) hv hp'
def z7h:match foldC P l most e m is with
  |none=>∀ i∈is,∀ v,e i=some v→¬ v.1≤most
  |some w=>Fo most (fun i=>gp P l i m) e is w.1 w.2.1∧∃ i v,e i=some v∧v.1≤most∧v.1+gp P l i m=w.1∧w.2.2.1=(i:Int)∧i∈is:=by
 have:=z7i (P:=P) (l:=l) (most:=most) (e:=e) (m:=m) is [] none (fun i hi=>by cases hi);rw[List.nil_append] at this;exact this
def z00(h:q<256)(hs:s∈pth q i):wR P l (m::s)=wR P l s+gp P l i m:=by obtain⟨r,rfl⟩:=q15 h hs;rfl
def j3l(hP:1≤P):∀ (q m:Nat),q<256→Ok P l most (ent P l most q m) (pth q m):=by
 intro q;induction q using Nat.strongRecOn with
 |_ q ih=>
  intro m hq;rw[q87 m hq,z28 m hq];by_cases c0:q=1∧m=0
  ·rw[if_pos c0,if_pos c0];refine⟨fun w hw=>?_,fun s hs _=>?_,fun w hw _=>?_⟩
   ·rw[← Option.some.inj hw];exact⟨[0],by simp,rfl⟩
   ·rw[yyl] at hs;rw[hs];exact⟨st0,rfl,Int.le_refl _⟩
   ·rw[← Option.some.inj hw];rfl
  ·rw[if_neg c0,if_neg c0];by_cases c1:m≠0∧q.testBit m=true
   ·rw[if_pos c1,if_pos c1];have hlt:=q4o c1.2;have hp:q ^^^ 2 ^ m<256:=by omega
    have hF:∀ i∈bitsL (q ^^^ 2 ^ m),Ok P l most (ent P l most (q ^^^ 2 ^ m) i) (pth (q ^^^ 2 ^ m) i):=fun i _=>ih _ hlt i hp;have hg:∀ i,0≤gp P l i m:=fun i=>(z1r (l:=l) hP i m).1;have hfo:=z7h (P:=P) (l:=l) (most:=most) (e:=ent P l most (q ^^^ 2 ^ m)) (m:=m) (is:=bitsL (q ^^^ 2 ^ m));refine⟨fun w hw=>?_,fun s hs hle=>?_,fun w hw hle=>?_⟩
    ·rw[hw] at hfo;obtain⟨_,i,v,h2,h3,h4,h5,h6⟩:=hfo;obtain⟨s,hs,e⟩:=(hF i h6).a v h2;refine⟨m::s,List.mem_flatMap.2 ⟨i,h6,yy0.2 ⟨s,hs,rfl⟩⟩,?_⟩;rw[z00 hp hs,e,h4]
    ·obtain⟨i,hi,hs⟩:=List.mem_flatMap.1 hs;obtain⟨r,hr,rfl⟩:=yy0.1 hs;rw[z00 hp hr] at hle ⊢;have:=hg i;obtain⟨v,hv,hle2⟩:=(hF i hi).b r hr (by omega);cases hw:foldC P l most (ent P l most (q ^^^ 2 ^ m)) m (bitsL (q ^^^ 2 ^ m)) with
     |none=>rw[hw] at hfo;exact absurd (show v.1≤most by omega) (hfo i hi v hv)
     |some w=>rw[hw] at hfo;have:=hfo.1.mn i hi v hv (by omega);exact⟨w,rfl,by omega⟩
    ·rw[hw] at hfo;rw[hfo.1.count hg hF hle,List.countP_flatMap,z4p (α:=Nat)];refine q13 fun i hi=>?_;show((_:Nat):Int)=((List.countP _ (List.map _ _):Nat):Int);rw[List.countP_map];congr 1;refine List.countP_congr fun s hs=>?_;show decide _=true↔decide (wR P l (m::s)=w.1)=true;rw[z00 hp hs]
   ·rw[if_neg c1,if_neg c1];refine⟨fun w hw=>(by cases hw),fun s hs _=>(by cases hs),fun w hw _=>(by cases hw)⟩
def z5t(hq:q<256){w:WD}(hw:ent P l most q m=some w)(h:¬ (q=1∧m=0)):m≠0∧q.testBit m=true∧∃ i v,ent P l most (q ^^^ 2 ^ m) i=some v∧v.1≤most∧v.1+gp P l i m=w.1∧w.2.2.1=(i:Int)∧(q ^^^ 2 ^ m).testBit i=true:=by
 rw[q87 m hq,if_neg h] at hw;split at hw
 ·rename_i c;have hfo:=z7h (P:=P) (l:=l) (most:=most) (e:=ent P l most (q ^^^ 2 ^ m)) (m:=m) (is:=bitsL (q ^^^ 2 ^ m));rw[hw] at hfo;obtain⟨_,i,v,h2,h3,h4,h5,h6⟩:=hfo;exact⟨c.1,c.2,i,v,h2,h3,h4,h5,(x5.1 h6).2⟩
 ·cases hw
def ctF(P:Int)(l:List Pt)(T:Nat→Option WD)(x:Int)(i:Nat):Int:=match T i with
 |none=>0
 |some v=>if v.1+gp P l i 0=x then v.2.1 else 0
def CF(P:Int)(l:List Pt)(T:Nat→Option WD)(k:Nat)(c:Int×Int×Int):Prop:=
 (c.1<0∧∀ i,i<k→T i=none)∨(0≤c.1∧(c.1<k∧∃ v,T c.1.toNat=some v∧v.1+gp P l c.1.toNat 0=c.2.1) ∧
  ((∀ i,i<k→∀ v,T i=some v→c.2.1≤v.1+gp P l i 0)∧c.2.2=sm (ctF P l T c.2.1) (List.range k)))
def clK_fo{T:Nat→Option WD}:∀ k:Nat,CF P l T k (clK P l T k)
 |0=>.inl ⟨(by show(-1:Int)<0;decide),fun i h=>by omega⟩
 |k+1=>by
  have ih:=clK_fo (T:=T) k;unfold CF at ih;have hz:∀ y:Int,(∀ i,i<k→∀ v,T i=some v→y<v.1+gp P l i 0)→sm (ctF P l T y) (List.range k)=0:=fun y hy=>by
   have e:sm (ctF P l T y) (List.range k)=sm (fun _=>(0:Int)) (List.range k):=q13 fun i hi=>by
    unfold ctF;cases hT:T i with
    |none=>rfl
    |some v=>have:=hy i (yys.1 hi) v hT;show(if v.1+gp P l i 0=y then v.2.1 else 0)=0;rw[if_neg (by omega)]
   rw[e];clear e hy ih;induction (List.range k) with
   |nil=>rfl
   |cons i is ih=>rw[v9,ih];omega
  rw[clK];cases hT:T k with
  |none=>
   dsimp only;rcases ih with⟨h1,h2⟩|⟨h1,⟨h2,h3⟩,h4,h5⟩
   ·refine .inl ⟨h1,fun i hi=>?_⟩;rcases Nat.lt_or_ge i k with c|c
    ·exact h2 i c
    ·rw[show i=k by omega,hT]
   ·refine .inr ⟨h1,⟨by push_cast;omega,h3⟩,fun i hi v hv=>?_,?_⟩
    ·rcases Nat.lt_or_ge i k with c|c
     ·exact h4 i c v hv
     ·rw[show i=k by omega,hT] at hv;cases hv
    ·rw[f7,show ctF P l T _ k=0 by unfold ctF;rw[hT]];omega
  |some w=>
   dsimp only;by_cases c1:(clK P l T k).1<0∨w.1+gp P l k 0<(clK P l T k).2.1
   ·rw[if_pos c1];have hlt:∀ i,i<k→∀ v,T i=some v→w.1+gp P l k 0<v.1+gp P l i 0:=fun i hi v hv=>by
     rcases ih with⟨h1,h2⟩|⟨h1,⟨h2,h3⟩,h4,h5⟩
     ·rw[h2 i hi] at hv;cases hv
     ·have:=h4 i hi v hv;omega
    refine .inr ⟨by omega,⟨by push_cast;omega,w,by rw[Int.toNat_natCast];exact hT,by rw[Int.toNat_natCast]⟩,fun i hi v hv=>?_,?_⟩
    ·show w.1+gp P l k 0≤v.1+gp P l i 0;rcases Nat.lt_or_ge i k with c|c
     ·have:=hlt i c v hv;omega
     ·rw[show i=k by omega,hT] at hv;have:=Option.some.inj hv;subst this;rw[show i=k by omega];omega
    ·rw[f7,hz _ hlt,show ctF P l T (w.1+gp P l k 0) k=w.2.1 by unfold ctF;rw[hT];exact if_pos rfl];dsimp only;omega
   ·rw[if_neg c1];rcases ih with⟨h1,h2⟩|⟨h1,⟨h2,h3⟩,h4,h5⟩
    ·exact absurd (Or.inl h1) c1
    ·by_cases c2:w.1+gp P l k 0=(clK P l T k).2.1
     ·rw[if_pos c2];refine .inr ⟨h1,⟨by push_cast;omega,h3⟩,fun i hi v hv=>?_,?_⟩
      ·show(clK P l T k).2.1≤v.1+gp P l i 0;rcases Nat.lt_or_ge i k with c|c
       ·exact h4 i c v hv
       ·rw[show i=k by omega,hT] at hv;have:=Option.some.inj hv;subst this;rw[show i=k by omega];omega
      ·rw[f7,← h5,show ctF P l T (clK P l T k).2.1 k=w.2.1 by unfold ctF;rw[hT];exact if_pos c2]
     ·rw[if_neg c2];refine .inr ⟨h1,⟨by push_cast;omega,h3⟩,fun i hi v hv=>?_,?_⟩
      ·rcases Nat.lt_or_ge i k with c|c
       ·exact h4 i c v hv
       ·rw[show i=k by omega,hT] at hv;have:=Option.some.inj hv;subst this;rw[show i=k by omega];omega
      ·rw[f7,← h5,show ctF P l T (clK P l T k).2.1 k=0 by unfold ctF;rw[hT];exact if_neg c2];omega
end
def lastN:Nat→List Nat→Nat
 |h,[]=>h
 |_,y::t=>lastN y t
def nd_rev{s:List α}:s.reverse.Nodup↔s.Nodup:=(List.reverse_perm s).nodup_iff
def j0s{a b:List α}(e:a.reverse=b.reverse):a=b:=by have:=congrArg List.reverse e;rwa[List.reverse_reverse,List.reverse_reverse] at this
section
variable {P:Int}{l:List Pt}{most:Int}
def z58:∀ (z:List Nat) (h m:Nat),wst P l h (z++[m])=wst P l h z+gp P l (lastN h z) m
 |[],h,m=>by simp[wst,lastN]
 |y::t,h,m=>by rw[List.cons_append,wst,wst,lastN,z58 t y m];omega
def z91:∀ (z:List Nat) (h:Nat) (r:List Nat),wR P l (z.reverse++h::r)=wR P l (h::r)+wst P l h z∧∃ r',z.reverse++h::r=lastN h z::r'
 |[],h,r=>⟨by simp[wst],r,rfl⟩
 |y::t,h,r=>by
  have e:(y::t).reverse++h::r=t.reverse++y::h::r:=by simp
  rw[e];obtain⟨h1,r',h2⟩:=z91 t y (h::r);refine⟨?_,r',h2⟩;rw[h1,wst];show wR P l (h::r)+gp P l h y+wst P l y t=_;omega
def z1s{N x:Nat}:(2 ^ N-1).testBit x=true↔x<N:=by rw[Nat.testBit_two_pow_sub_one,decide_eq_true_iff]
def q3t(h1:1≤N)(h8:N≤8):(∃ i,i<N∧s∈pth (2 ^ N-1) i)↔s.reverse∈allO N:=by
 have hq:2 ^ N-1<256:=by have:2 ^ N≤256:=yyy (n:=2) (by omega) h8;have:=Nat.one_le_two_pow (n:=N);omega
 rw[q16 h1];constructor
 ·rintro⟨i,hi,hs⟩;obtain⟨⟨r,e⟩,h2,h3,h4⟩:=(z4x hq).1 hs;have h5:s.reverse.head?=some 0:=by rw[List.head?_reverse];exact h2
  obtain⟨z,hz⟩:∃ z,s.reverse=0::z:=by
   cases hr:s.reverse with
   |nil=>rw[hr] at h5;cases h5
   |cons a z=>rw[hr] at h5;exact⟨z,by rw[Option.some.inj h5]⟩
  refine⟨z,hz,?_⟩;rw[← hz];refine(List.perm_ext_iff_of_nodup (nd_rev.2 h3) List.nodup_range).2 fun x=>?_;rw[List.mem_reverse,h4,z1s,yys]
 ·rintro⟨z,hz,hp⟩;have hs:s=(0::z).reverse:=by rw[← hz,List.reverse_reverse]
  obtain⟨_,r',e⟩:=z91 (P:=1) (l:=[]) z 0 [];have hm:∀ x,x∈s↔x<N:=fun x=>by rw[hs,List.mem_reverse,hp.mem_iff,yys]
  have e2:s=lastN 0 z::r':=by rw[hs,List.reverse_cons];exact e
  refine⟨lastN 0 z,(hm _).1 (by rw[e2];exact yyg),(z4x hq).2 ⟨⟨r',e2⟩,?_,?_,fun x=>by rw[hm,z1s]⟩⟩
  ·rw[hs,List.getLast?_reverse];rfl
  ·rw[hs];exact nd_rev.2 (hp.nodup_iff.2 List.nodup_range)
def xmW(P:Int)(l:List Pt):Int:=P*leR P l-sm (lO l) (List.range l.length)
def rd_wR(hP:1≤P)(h1:1≤l.length)(h8:l.length≤8)(hs:s∈pth (2 ^ l.length-1) i)(hi:i<l.length):wR P l s+gp P l i 0=P*rdL P l s.reverse-sm (lO l) (List.range l.length):=by
 have hq:2 ^ l.length-1<256:=by have:2 ^ l.length≤256:=yyy (n:=2) (by omega) h8;have:=Nat.one_le_two_pow (n:=l.length);omega
 obtain⟨z,hz,hp⟩:=(q16 h1).1 ((q3t h1 h8).1 ⟨i,hi,hs⟩);have he:s=z.reverse++[0]:=by rw[← List.reverse_reverse s,hz,List.reverse_cons]
 obtain⟨e1,r',e2⟩:=z91 (P:=P) (l:=l) z 0 [];obtain⟨r,e3⟩:=q15 hq hs;have hl:lastN 0 z=i:=by rw[← he,e3] at e2;exact(List.cons.inj e2).1.symm
 rw[hz];show _=P*rd P l 0 z-_;rw[← tot_rd hP hp];unfold tot;rw[q6f hp,z58,hl,he,e1];have:wR P l [0]=0:=rfl;omega
def xm_le(hP:1≤P)(h1:1≤l.length):xmW P l≤msT P l:=by
 have hne:l≠[]:=fun e=>by rw[e] at h1;simp at h1
 have h:=j2j hP hne (q41 (l:=l) hP);have h2:P*leR P l≤P*(pkV P l+1):=Int.mul_le_mul_of_nonneg_left h (by omega);rw[Int.mul_comm P (pkV P l+1)] at h2;unfold xmW msT msK;omega
def z2h(hP:1≤P)(h1:1≤l.length)(h8:l.length≤8)(hi:i<l.length)(hs:s∈pth (2 ^ l.length-1) i):rdL P l s.reverse=leR P l↔wR P l s+gp P l i 0=xmW P l:=by
 rw[rd_wR hP h1 h8 hs hi];unfold xmW;constructor
 ·intro h;rw[h]
 ·intro h;exact Int.eq_of_mul_eq_mul_left (a:=P) (by omega) (by omega)
def xm_min(hP:1≤P)(h1:1≤l.length)(h8:l.length≤8)(hi:i<l.length)(hs:s∈pth (2 ^ l.length-1) i):xmW P l≤wR P l s+gp P l i 0:=by rw[rd_wR hP h1 h8 hs hi];have:=j2l (P:=P) ((q3t h1 h8).1 ⟨i,hi,hs⟩);have:=Int.mul_le_mul_of_nonneg_left this (show 0≤P by omega);unfold xmW;omega
def j30(hP:1≤P)(h1:1≤l.length)(h8:l.length≤8):Fo (msT P l) (fun i=>gp P l i 0) (ent P l (msT P l) (2 ^ l.length-1)) (List.range l.length) (xmW P l) (cntT P l).2.2 ∧
  0≤(cntT P l).1∧(cntT P l).1<l.length∧∃ v,ent P l (msT P l) (2 ^ l.length-1) (cntT P l).1.toNat=some v∧v.1≤msT P l∧v.1+gp P l (cntT P l).1.toNat 0=xmW P l:=by
 have hq:2 ^ l.length-1<256:=by have:2 ^ l.length≤256:=yyy (n:=2) (by omega) h8;have:=Nat.one_le_two_pow (n:=l.length);omega
 have hne:l≠[]:=fun e=>by rw[e] at h1;simp at h1
 have hg:∀ i,0≤gp P l i 0:=fun i=>(z1r (l:=l) hP i 0).1;have hxm:=xm_le hP h1;obtain⟨o,ho,hoe⟩:=j2k (P:=P) hne;obtain⟨i,hi,hs⟩:=(q3t h1 h8 (s:=o.reverse)).2 (by rw[List.reverse_reverse];exact ho);have hb:=(z2h hP h1 h8 hi hs).1 (by rw[List.reverse_reverse];exact hoe);have hgi:=hg i;obtain⟨w,hw,hwl⟩:=(j3l (l:=l) (most:=msT P l) hP (2 ^ l.length-1) i hq).b _ hs (by omega);have hT:∀ k,mLp P l (msT P l) (2 ^ (l.length-1)) (2 ^ l.length-1) k=prn (msT P l) (ent P l (msT P l) (2 ^ l.length-1) k):=fun k=>z97 h1 h8 k;have hTi:mLp P l (msT P l) (2 ^ (l.length-1)) (2 ^ l.length-1) i=some w:=by rw[hT,hw];show(if w.1>msT P l then none else some w)=some w;rw[if_neg (by omega)]
 have hcf:=clK_fo (P:=P) (l:=l) (T:=mLp P l (msT P l) (2 ^ (l.length-1)) (2 ^ l.length-1)) l.length;change CF P l _ _ (cntT P l) at hcf;rcases hcf with⟨_,h⟩|⟨c1,⟨c2,v,hv,hve⟩,c3,c4⟩
 ·rw[h i hi] at hTi;cases hTi
 ·rw[hT] at hv;obtain⟨hv1,hv2⟩:=z6l hv;have hx:(cntT P l).2.1=xmW P l:=by have a:=c3 i hi w hTi;obtain⟨s2,hs2,he2⟩:=(j3l (most:=msT P l) hP (2 ^ l.length-1) _ hq).a v hv1;have b:=xm_min hP h1 h8 (by omega) hs2;omega
  rw[hx] at hve c3 c4;refine⟨⟨⟨(cntT P l).1.toNat,yys.2 (by omega),v,hv1,hv2,hve⟩,fun j hj u hu hu2=>?_,?_⟩,c1,c2,v,hv1,hv2,hve⟩
  ·refine c3 j (yys.1 hj) u ?_;rw[hT,hu];show(if u.1>msT P l then none else some u)=some u;rw[if_neg (by omega)]
  ·rw[c4];refine q13 fun j hj=>?_;unfold ctF ciE;rw[hT];cases hu:ent P l (msT P l) (2 ^ l.length-1) j with
   |none=>rfl
   |some u=>
    show(match (if u.1>msT P l then none else some u) with|none=>(0:Int)|some v=>if v.1+gp P l j 0=xmW P l then v.2.1 else 0)=if u.1≤msT P l∧u.1+gp P l j 0=xmW P l then u.2.1 else 0;by_cases c:u.1>msT P l
    ·rw[if_pos c,if_neg (fun h=>by omega)]
    ·rw[if_neg c];dsimp only;by_cases d:u.1+gp P l j 0=xmW P l
     ·rw[if_pos d,if_pos ⟨by omega,d⟩]
     ·rw[if_neg d,if_neg (fun h=>d h.2)]
def j31(hP:1≤P)(h1:1≤l.length)(h8:l.length≤8):(cntT P l).2.2=((bestsL P l).length:Int):=by
 have hq:2 ^ l.length-1<256:=by have:2 ^ l.length≤256:=yyy (n:=2) (by omega) h8;have:=Nat.one_le_two_pow (n:=l.length);omega
 have hg:∀ i,0≤gp P l i 0:=fun i=>(z1r (l:=l) hP i 0).1;rw[(j30 hP h1 h8).1.count hg (fun i _=>j3l hP _ i hq) (xm_le hP h1)];have hperm:(((List.range l.length).flatMap (pth (2 ^ l.length-1))).map List.reverse).Perm (inO (l.length-1)):=by
  refine(List.perm_ext_iff_of_nodup ?_ (z3o _)).2 fun o=>?_
  ·show List.Pairwise (·≠·) _;rw[List.pairwise_map,List.pairwise_flatMap];refine⟨fun i hi=>(pth_nd _ i hq).imp fun h e=>h (j0s e),?_⟩;refine List.nodup_range.imp fun {i j} hij x hx y hy e=>hij ?_;have e2:x=y:=j0s e;subst e2;obtain⟨r1,e1⟩:=q15 hq hx;obtain⟨r2,e2⟩:=q15 hq hy;rw[e1] at e2;exact(List.cons.inj e2).1
  ·rw[z68 h1,yy0];constructor
   ·rintro⟨s,hs,rfl⟩;obtain⟨i,hi,hs⟩:=List.mem_flatMap.1 hs;exact(q3t h1 h8).1 ⟨i,yys.1 hi,hs⟩
   ·intro ho;obtain⟨i,hi,hs⟩:=(q3t h1 h8 (s:=o.reverse)).2 (by rw[List.reverse_reverse];exact ho);exact⟨o.reverse,List.mem_flatMap.2 ⟨i,yys.2 hi,hs⟩,List.reverse_reverse o⟩
 unfold bestsL;rw[← List.countP_eq_length_filter,← hperm.countP_eq,List.countP_map,List.countP_flatMap,z4p (α:=Nat)];refine q13 fun i hi=>?_;congr 1;refine List.countP_congr fun s hs=>?_;rw[decide_eq_true_iff];show _↔decide (rdL P l s.reverse=leR P l)=true;rw[decide_eq_true_iff,z2h hP h1 h8 (yys.1 hi) hs]
def bkA(P:Int)(l:List Pt)(most:Int):Nat→Nat→Nat→List Nat
 |0,_,m=>[m]
 |f+1,q,m=>if q=1∧m=0 then [0] else match ent P l most q m with
  |some w=>m::bkA P l most f (q ^^^ 2 ^ m) w.2.2.1.toNat
  |none=>[m]
def bk(P:Int)(l:List Pt)(most:Int)(q m:Nat):List Nat:=bkA P l most 256 q m
def z7u:∀ (f q m:Nat),q<f→q<256→bkA P l most f q m=bkA P l most (f+1) q m
 |0,q,m,h,_=>by omega
 |f+1,q,m,h,h2=>by
  rw[bkA,bkA];split
  ·rfl
  ·rename_i c;cases hw:ent P l most q m with
   |none=>rfl
   |some w=>dsimp only;have hb:=z5t h2 hw c;have hlt:=q4o hb.2.1;rw[z7u f _ _ (by omega) (by omega)]
def bk_one:bk P l most 1 0=[0]:=rfl
def bk_eq(hq:q<256)(h:¬ (q=1∧m=0)){w:WD}(hw:ent P l most q m=some w):bk P l most q m=m::bk P l most (q ^^^ 2 ^ m) w.2.2.1.toNat:=by unfold bk;rw[z7u 256 q m hq hq,bkA,if_neg h,hw]
def bk_ok:∀ (q m:Nat),q<256→∀ w,ent P l most q m=some w→w.1≤most→bk P l most q m∈pth q m∧wR P l (bk P l most q m)=w.1:=by
 intro q;induction q using Nat.strongRecOn with
 |_ q ih=>
  intro m hq w hw hle;by_cases c:q=1∧m=0
  ·obtain⟨rfl,rfl⟩:=c;rw[bk_one];have:ent P l most 1 0=some st0:=rfl;rw[hw] at this;rw[Option.some.inj this];exact⟨by decide,rfl⟩
  ·obtain⟨b1,b2,i,v,b3,b4,b5,b6,b7⟩:=z5t hq hw c;have hlt:=q4o b2;have hi:w.2.2.1.toNat=i:=by rw[b6,Int.toNat_natCast]
   obtain⟨p1,p2⟩:=ih _ hlt i (by omega) v b3 b4;rw[bk_eq hq c hw,hi];refine⟨?_,?_⟩
   ·rw[z28 m hq,if_neg c,if_pos ⟨b1,b2⟩];exact List.mem_flatMap.2 ⟨i,x5.2 ⟨q9d (N:=8) (by omega) b7,b7⟩,yy0.2 ⟨_,p1,rfl⟩⟩
   ·rw[z00 (by omega) p1,p2,b5]
end
def bestO(P:Int)(l:List Pt):List Nat:=(bk P l (msT P l) (2 ^ l.length-1) (cntT P l).1.toNat).reverse
def best_in(hP:1≤P)(h1:1≤l.length)(h8:l.length≤8):bestO P l∈bestsL P l:=by
 have hq:2 ^ l.length-1<256:=by have:2 ^ l.length≤256:=yyy (n:=2) (by omega) h8;have:=Nat.one_le_two_pow (n:=l.length);omega
 obtain⟨_,c1,c2,v,hv,hv2,hve⟩:=j30 hP h1 h8;obtain⟨p1,p2⟩:=bk_ok (2 ^ l.length-1) (cntT P l).1.toNat hq v hv hv2;have hi:(cntT P l).1.toNat<l.length:=by omega
 refine(mem_bests h1).2 ⟨(q3t h1 h8).1 ⟨_,hi,p1⟩,(z2h hP h1 h8 hi p1).2 ?_⟩;rw[p2];exact hve
end Go.Proofs.YtjmhhehhfeengaaGreatDoor
namespace Go.Proofs.YtjmhhehhfeengaaGreatDoor
open Go Go.RowKit Ox Ox.Sh Ox.Se
attribute [local irreducible] JC JL JK JW
attribute [local irreducible] ovA stA pkV
def and_bit(h:q.testBit m=true):q &&& 2 ^ m=2 ^ m:=by
 refine Nat.eq_of_testBit_eq fun i=>?_;rw[yx3,Nat.testBit_two_pow];by_cases e:m=i
 ·subst e;rw[h];simp
 ·rw[decide_eq_false e];simp
def q1b(l:List α)(i k:Nat)(a d:α)(hi:i<l.length):(l.set i a).getD k d=if k=i then a else l.getD k d:=by
 rw[yyj,yyj,List.getElem?_set];by_cases e:i=k
 ·subst e;rw[if_pos rfl,if_pos hi,if_pos rfl];rfl
 ·rw[if_neg e,if_neg (fun h=>e h.symm)]
structure RV(X:List Int)(i:Nat)(Y:List Int):Prop where
 len:Y.length=X.length
 at_:∀ k,k<X.length→Y.getD k 0=if k<i∨X.length-1-k<i then X.getD (X.length-1-k) 0 else X.getD k 0
def RV.start(X:List Int):RV X 0 X:=⟨rfl,fun k _=>by rw[if_neg (by omega)]⟩
def RV.step(h:RV X i Y)(hij:i<j)(hj:i+j+1=X.length):RV X (i+1) ((Y.set i (Y.getD j 0)).set j (Y.getD i 0)):=by
 refine⟨by rw[List.length_set,List.length_set,h.len],fun k hk=>?_⟩;have hl:=h.len;rw[q1b _ j k _ _ (by rw[List.length_set];omega),q1b _ i k _ _ (by omega)];have hi2:=h.at_ i (by omega);have hj2:=h.at_ j (by omega);rw[if_neg (by omega)] at hi2 hj2;by_cases e1:k=j
 ·subst e1;rw[if_pos rfl,if_pos (by omega),hi2,show X.length-1-k=i by omega]
 ·rw[if_neg e1];by_cases e2:k=i
  ·subst e2;rw[if_pos rfl,if_pos (by omega),hj2,show X.length-1-k=j by omega]
  ·rw[if_neg e2,h.at_ k hk];by_cases c:k<i∨X.length-1-k<i
   ·rw[if_pos c,if_pos (by omega)]
   ·rw[if_neg c,if_neg (by omega)]
def RV.done(h:RV X i Y)(hi:X.length≤2*i+1):Y=X.reverse:=by
 refine List.ext_getElem (by rw[List.length_reverse,h.len]) fun k h1 h2=>?_;have hk:k<X.length:=by rw[← h.len];exact h1
 have:=h.at_ k hk;rw[z9 Y h1] at this;rw[this,List.getElem_reverse];by_cases c:k<i∨X.length-1-k<i
 ·rw[if_pos c,z9 X (by omega)]
 ·rw[if_neg c,z9 X hk];congr 1;omega
set_option maxHeartbeats 8000000 in
def fn15(P:Int)(l:List Pt)(hz:seE P l=0):Ox.Fn Tryz.prog 15 (.acons (vH P l) .anil) (·=vL (iL (bestO P l))):=by
 obtain⟨hP,h1,h8,hl⟩:=q4l.1 hz;have h0:=Nat.one_le_two_pow (n:=l.length);have h256:2 ^ l.length≤256:=yyy (n:=2) (by omega) h8;refine Ox.Fn.intro xok Tryz.func15 rfl Tryz.call15 (yyc rfl) (fun E M0 up=>?_);refine z5 ?_;refine zK2 ?_;refine JK.inl [8,0] rfl rfl trivial Tryz.func43 rfl Tryz.call43 (yyc rfl) rfl fun M1 up1=>?_;refine z2e (fn:=Tryz.f43) rfl ?_;show JK _ _ _ ⟨[(0,vH P l)],[(0,.fr 0 [(8,vH P l),(0,vH P l)])],1⟩;refine j0p (rg:=8) hz fun es clk htg=>?_;refine zK2 ?_;refine JK.inl [3,0] rfl rfl trivial Tryz.func44 rfl Tryz.call44 (yyc rfl) rfl fun M2 up2=>?_;refine z2e (fn:=Tryz.f44) rfl ?_;show JK _ _ _ ⟨[(0,vH P l),(1,.lf (.mp 1))],[(2,.fr 0 [(3,.lf (.mp 1)),(0,vH P l)]),(1,.map kyT wyT es clk)],3⟩;refine z30 (rg:=3) hz (tab_bd hP h1 h8) htg ?_;have c77:=fn19 P l h8;have c95:=fn45;obtain⟨_,e1,e2,v,hv,hv2,hve⟩:=j30 hP.1 h1 h8;change JK _ _ _ ⟨(13,.tup (.acons (vI (cntT P l).1) (.acons (vI (cntT P l).2.2) .anil)))::_,_,_⟩;have hbO:bestO P l=(bk P l (msT P l) (2 ^ l.length-1) (cntT P l).1.toNat).reverse:=rfl;obtain⟨m0,hm0⟩:∃ m:Nat,(cntT P l).1=(m:Int):=⟨(cntT P l).1.toNat,by omega⟩;rw[hm0,Int.toNat_natCast] at hbO hv hve;rw[hm0] at e1 e2 ⊢;generalize (cntT P l).2.2=c3;have hT:∀ q m,q % 2=1→q<2 ^ l.length→∀ w,ent P l (msT P l) q m=some w→w.1≤msT P l→mLp P l (msT P l) (2 ^ (l.length-1)) q m=some w:=fun q m ho hq w hw hle=>by rw[z96 h8 h1 m ho hq,hw];show(if w.1>msT P l then none else some w)=some w;rw[if_neg (by omega)]
 have hbl8:(bk P l (msT P l) (2 ^ l.length-1) m0).length≤8:=by obtain⟨_,_,h3,h4⟩:=(z4x (by omega)).1 (bk_ok (2 ^ l.length-1) m0 (by omega) v hv hv2).1;exact Nat.le_trans (z3c h3 fun x hx=>z1s.1 ((h4 x).1 hx)) h8
 have hA2:2 ^ l.length-1<2 ^ l.length:=by omega
 have hAo:=j4r h1;generalize 2 ^ l.length-1=A at c77 hbO hv hA2 hAo hbl8;refine zK14 ?_;refine JK.ghost 7 3 (.int .i64) rfl ?_;refine JK.loop (σ:=Nat×Nat×List Nat) (fun q=>⟨[(0,vH P l),(3,.lf (.mp 1)),(6,.lf (.optr 2 [])),(7,.lf (.osl 3))],[(1,.map kyT wyT es clk),(2,.cell kyT (.val kyT (ky q.1 q.2.1))),(3,.sl 3 (.int .i64) (iL q.2.2))],4⟩)
  (fun q=>q.1 % 2=1∧q.1<2 ^ l.length∧(∃ w,ent P l (msT P l) q.1 q.2.1=some w∧w.1≤msT P l)∧q.2.2++bk P l (msT P l) q.1 q.2.1=bk P l (msT P l) A m0) (fun q=>q.1) (A,m0,[]) ⟨hAo,hA2,⟨v,hv,hv2⟩,rfl⟩ (by dsimp only;exact zJ) fun q hq=>?_
 obtain⟨q,m,O⟩:=q;obtain⟨q1,q2,⟨w,hw,hwl⟩,q4⟩:=hq;dsimp only at q1 q2 hw q4 ⊢;have hil:(iL O).length=O.length:=q4r O;have hO8:O.length≤8:=by have:=congrArg List.length q4;rw[yyw] at this;omega
 have hT1:=hT q m q1 q2 w hw hwl;obtain⟨hh,hg⟩:=htg.some hT1;refine zK10 ?_;refine q05 xk (Tryz.f15.body.getD .skip) ⟨[(0,vH P l),(3,.lf (.mp 1)),(6,.lf (.optr 2 [])),(7,.lf (.osl 3)),(22,vB (!Ty.eqB kyT (ky q m) (1,0,())))],[(1,.map kyT wyT es clk),(2,.cell kyT (.val kyT (ky q m))),(3,.sl 3 (.int .i64) (iL O))],4⟩ rfl 3 rfl ?_ ?_
 ·(refine z8 0 xk rfl rfl (zU 1 xk rfl rfl ?_);refine zK21 ?_;refine w8 ?_;refine zU 2 xk rfl rfl ?_;refine zK21 ?_;refine w8 ?_;refine n8 xk StF.nil ?_;(exact zJ))
 refine q7 rfl (fun hc=>?_) (fun hc=>?_)
 ·have hne:¬ (q=1∧m=0):=fun h=>by obtain⟨rfl,rfl⟩:=h;cases hc
  obtain⟨b1,b2,i,u,b3,b4,b5,b6,b7⟩:=z5t (by omega) hw hne;have hm8:m<8:=q9d (N:=8) (by omega) b2;have hww:(2:Int) ^ m=((2 ^ m:Nat):Int):=by push_cast;rfl
  have hwp:2 ^ m<256:=Nat.pow_lt_pow_right (a:=2) (by omega) hm8;have hwb:0≤(2:Int) ^ ((m:Int)).toNat∧(2:Int) ^ ((m:Int)).toNat≤65536:=by rw[Int.toNat_natCast,hww];exact⟨Int.natCast_nonneg _,Int.ofNat_le.2 (show 2 ^ m≤65536 by omega)⟩
  have hxe:(((q:Int).toNat ^^^ ((q:Int).toNat &&& ((1:Int)*2 ^ ((m:Int)).toNat).toNat):Nat):Int)=((q ^^^ 2 ^ m:Nat):Int):=by rw[Int.toNat_natCast,Int.toNat_natCast,Int.one_mul,hww,Int.toNat_natCast,and_bit b2]
  have hlt:=q4o b2;have hcell:(((((q:Int).toNat ^^^ ((q:Int).toNat &&& ((1:Int)*2 ^ ((m:Int)).toNat).toNat):Nat):Int),(mGet (kt:=kyT) (vt:=wyT) es (ky q m) wyT.dflt).2.2.1,()):KD)=ky (q ^^^ 2 ^ m) i:=by rw[hxe,hg,b6]
  have hI:(q ^^^ 2 ^ m) % 2=1∧q ^^^ 2 ^ m<2 ^ l.length∧(∃ w,ent P l (msT P l) (q ^^^ 2 ^ m) i=some w∧w.1≤msT P l)∧(O++[m])++bk P l (msT P l) (q ^^^ 2 ^ m) i=bk P l (msT P l) A m0:=by refine⟨(z0w b1).2 q1,by omega,⟨u,b3,b4⟩,?_⟩;rw[bk_eq (by omega) hne hw,b6,Int.toNat_natCast] at q4;rw[← q4];simp
  refine zK10 ?_;refine z79 xk (Tryz.f15.body.getD .skip) rfl 12 rfl ?_
  (refine q9 0 xk rfl rfl (q9 2 xk rfl rfl (q9 6 xk rfl rfl (z8 1 xk rfl rfl (z8 3 xk rfl rfl (z8 4 xk rfl rfl (z8 5 xk rfl rfl (z8 7 xk rfl rfl (zU 8 xk rfl rfl ?_))))))));refine zK7 ?_;refine w8 ?_;refine q9 9 xk rfl rfl (zU 10 xk rfl rfl ?_);refine zK7 ?_;refine w8 ?_;refine zU 11 xk rfl rfl ?_;refine zK7 ?_;refine w8 ?_;refine n8 xk StF.nil ?_;((refine zK2 ?_;refine⟨(q ^^^ 2 ^ m,i,O++[m]),?_,hI,hlt⟩;dsimp only;rw[q44];(refine q1i (by conv=>lhs;reduce) ?_ ?_ ?_ ?_ rfl<;>(repeat' (first|exact trivial|exact rfl|refine And.intro ?_ ?_|exact yyc rfl|refine q1x ?_|(refine congrArg (fun z:Int=>some (AV.val (.int .i64) z)) ?_;push_cast;omega)|exact congrArg (fun z:KD=>some (HO.cell kyT (.val kyT z))) hcell))))))
 ·have heq:q=1∧m=0:=by
   have h2:Ty.eqB kyT (ky q m) (1,0,())=true:=by
    cases h:Ty.eqB kyT (ky q m) (1,0,())
    ·rw[h] at hc;cases hc
    ·rfl
   exact j2q.1 (x3.1 h2)
  obtain⟨rfl,rfl⟩:=heq;rw[bk_one] at q4;have hq4:iL O++[0]=iL (bk P l (msT P l) A m0):=by rw[← q4];simp
  refine zK2 ?_;rw[hq4];have hX8:(iL (bk P l (msT P l) A m0)).length≤8:=by rw[q4r];exact hbl8
  have hX1:1≤(iL (bk P l (msT P l) A m0)).length:=by rw[← hq4];simp
  have hfinal:(iL (bk P l (msT P l) A m0)).reverse=iL (bestO P l):=by rw[hbO];exact List.map_reverse.symm
  generalize iL (bk P l (msT P l) A m0)=X at hX8 hX1 hfinal ⊢;refine JK.weakO (s':=⟨[(7,.lf (.osl 0)),(42,.lf (.osl 0))],[(0,.sl 3 (.int .i64) X)],1⟩) (by exact zJ) ?_;refine JK.inl [7] rfl rfl trivial Tryz.func46 rfl Tryz.call46 (yyc rfl) rfl fun M3 up3=>?_;refine zK2 ?_;refine JK.loop (σ:=Nat×Nat×List Int) (fun q=>⟨[(0,.lf (.osl 0)),(2,vI (q.1:Int)),(3,vI (q.2.1:Int))],[(1,.fr 0 [(7,.lf (.osl 0))]),(0,.sl 3 (.int .i64) q.2.2)],2⟩)
   (fun q=>RV X q.1 q.2.2∧(q.1≤q.2.1+1)∧q.1+q.2.1+1=X.length) (fun q=>q.2.1) (0,X.length-1,X) ⟨RV.start X,by omega,by dsimp only;omega⟩ ?_ fun q hq=>?_
  ·dsimp only;rw[show((X.length-1:Nat):Int)=(X.length:Int)-1 by omega];exact zJ
  obtain⟨i,j,Y⟩:=q;obtain⟨r1,r2,r3⟩:=hq;dsimp only at r1 r2 r3 ⊢;have hYl:=r1.len;refine zK2 ?_;refine q7 rfl (fun hd=>?_) (fun hd=>?_)
  ·replace hd:=zC hd;have hs:=r1.step (j:=j) (by omega) r3;have hst1:(Y.set i (Y.getD j 0)).length=Y.length:=List.length_set;have hst2:(Y.set j (Y.getD i 0)).length=Y.length:=List.length_set;have hcm:(Y.set j (Y.getD i 0)).set i (Y.getD j 0)=(Y.set i (Y.getD j 0)).set j (Y.getD i 0):=List.set_comm _ _ (by omega);refine zK10 ?_;refine q37 xk (Tryz.f46.body.getD .skip) ⟨[(0,.lf (.osl 0)),(2,vI (i:Int)),(3,vI (j:Int))],[(1,.fr 0 [(7,.lf (.osl 0))]),(0,.sl 3 (.int .i64) ((Y.set ((i:Int)).toNat (Y.getD ((j:Int)).toNat 0)).set ((j:Int)).toNat (Y.getD ((i:Int)).toNat 0)))],2⟩ rfl 16 rfl ?_ ?_
   ·(refine q9 0 xk rfl rfl (q9 1 xk rfl rfl (q9 2 xk rfl rfl (q9 3 xk rfl rfl (q9 4 xk rfl rfl (q9 5 xk rfl rfl (q9 6 xk rfl rfl (q9 8 xk rfl rfl (q9 9 xk rfl rfl (q9 10 xk rfl rfl (z8 7 xk rfl rfl (z8 11 xk rfl rfl (z8 12 xk rfl rfl (zU 13 xk rfl rfl ?_)))))))))))));refine zK7 ?_;refine w8 ?_;refine q9 14 xk rfl rfl (zU 15 xk rfl rfl ?_);refine zK7 ?_;refine w8 ?_;refine n8 xk StF.nil ?_;(((refine q1i (by conv=>lhs;reduce) ?_ ?_ ?_ ?_ rfl<;>(repeat' (first|exact trivial|exact rfl|refine And.intro ?_ ?_|exact yyc rfl|refine q1x ?_|(refine congrArg (fun z:Int=>some (AV.val (.int .i64) z)) ?_;push_cast;omega)|exact congrArg (fun z:List Int=>some (HO.sl 3 (.int .i64) z)) hcm))))))
   ·refine zK2 ?_;refine⟨(i+1,j-1,(Y.set i (Y.getD j 0)).set j (Y.getD i 0)),?_,⟨hs,by dsimp only;omega,by dsimp only;omega⟩,by dsimp only;omega⟩;dsimp only;rw[show((j-1:Nat):Int)=(j:Int)-1 by omega];exact zJ
  ·replace hd:=zC hd;have hY:=r1.done (by omega);rw[hY,hfinal];refine zK2 ?_;refine JK.done (inlQ.nor rfl rfl rfl rfl ?_);refine zK2 ?_;refine⟨.inl rfl,_,_,rfl,trivial,?_⟩;rfl
def fn108(P:Int)(l:List Pt):Ox.Fn Tryz.prog 108 (.acons (vS P l) .anil) (·=vT2 (countI P l) (seE P l)):=by
 refine Ox.Fn.intro xok Tryz.func108 rfl Tryz.call108 (yyc rfl) (fun E M0 up=>?_);refine z5 ?_;have c61:=fn14 P l;unfold vOp at c61;by_cases hz:seE P l=0
 ·obtain⟨hP,h1,h8,hl⟩:=q4l.1 hz;rw[if_pos hz,hz] at c61;have c84:=fn205 P l hz;rw[j31 hP.1 h1 h8] at c84;have e1:countI P l=((bestsL P l).length:Int):=by unfold countI;rw[if_pos hz]
  rw[e1,hz];generalize (bestsL P l).length=n at c84
  (repeat (first|refine zs rfl ?_|refine zg rfl rfl rfl ?_|refine zd ?_|refine j6 ?_|refine j5 ?_|refine zc rfl (c61) rfl rfl ?_|refine ze rfl (c61) rfl ?_|refine zk rfl rfl (fun _=>c61) rfl rfl ?_|refine zc rfl (c84) rfl rfl ?_|refine ze rfl (c84) rfl ?_|refine zk rfl rfl (fun _=>c84) rfl rfl ?_))
  refine q7 rfl (fun h=>absurd h (by decide)) (fun _=>?_)
  (repeat (first|refine zs rfl ?_|refine zg rfl rfl rfl ?_|refine zd ?_|refine j6 ?_|refine j5 ?_|refine zc rfl (c84) rfl rfl ?_|refine ze rfl (c84) rfl ?_|refine zk rfl rfl (fun _=>c84) rfl rfl ?_))
  refine⟨.inl rfl,_,_,rfl,trivial,?_⟩;rfl
 ·have e1:countI P l=0:=by unfold countI;rw[if_neg hz]
  rw[e1];rw[if_neg hz] at c61;generalize seE P l=z at hz c61 ⊢;refine zK9 ?_;refine q7 rfl (fun _=>?_) (fun h=>?_)
  ·refine zK0 ?_;refine⟨.inl rfl,_,_,rfl,trivial,?_⟩;rfl
  ·replace h:=zC h;omega
def bstI(P:Int)(l:List Pt):List Int:=if seE P l=0 then iL (bestO P l) else []
def lstI(P:Int)(l:List Pt):Int:=if seE P l=0 then leR P l else 0
abbrev vB3(a:List Int)(b c:Int):AV:=.tup (.acons (vL a) (.acons (vI b) (.acons (vI c) .anil)))
def best_has{l:List Pt}(hP:1≤P)(h1:1≤l.length)(h8:l.length≤8):(bestO P l).length=l.length∧(∀ n∈bestO P l,n<l.length)∧bestO P l≠[]∧rdL P l (bestO P l)=leR P l:=by obtain⟨h2,h3⟩:=(mem_bests h1).1 (best_in hP h1 h8);have:=allO_has h1 h2;exact⟨this.1,this.2.1,this.2.2.1,h3⟩
def fn6(P:Int)(l:List Pt):Ox.Fn Tryz.prog 6 (.acons (vS P l) .anil) (·=vB3 (bstI P l) (lstI P l) (seE P l)):=by
 refine Ox.Fn.intro xok Tryz.func6 rfl Tryz.call6 (yyc rfl) (fun E M0 up=>?_);refine z5 ?_;have c61:=fn14 P l;unfold vOp at c61;by_cases hz:seE P l=0
 ·obtain⟨hP,h1,h8,hl⟩:=q4l.1 hz;rw[if_pos hz,hz] at c61;have c74:=fn15 P l hz;obtain⟨b1,b2,b3,b4⟩:=best_has hP.1 h1 h8;have c71:=fn16 P l (bestO P l) hz b2 (by omega);rw[← rdL_eq b3,b4] at c71;have e1:bstI P l=iL (bestO P l):=by unfold bstI;rw[if_pos hz]
  have e2:lstI P l=leR P l:=by unfold lstI;rw[if_pos hz]
  rw[e1,e2,hz];have hil:(iL (bestO P l)).length=l.length:=by rw[q4r];exact b1
  generalize iL (bestO P l)=B at c74 c71 hil ⊢
  (repeat (first|refine zs rfl ?_|refine zg rfl rfl rfl ?_|refine zd ?_|refine j6 ?_|refine j5 ?_|refine zc rfl (c61) rfl rfl ?_|refine ze rfl (c61) rfl ?_|refine zk rfl rfl (fun _=>c61) rfl rfl ?_|refine zc rfl (c74) rfl rfl ?_|refine ze rfl (c74) rfl ?_|refine zk rfl rfl (fun _=>c74) rfl rfl ?_))
  refine q7 rfl (fun h=>absurd h (by decide)) (fun _=>?_);have hrep:(List.replicate ((B.length:Int)).toNat (Ty.dflt (.int .i64))).length=B.length:=by simp
  (repeat (first|refine zs rfl ?_|refine zg rfl rfl rfl ?_|refine j6 ?_|refine j5 ?_|refine zc rfl (c74) rfl rfl ?_|refine ze rfl (c74) rfl ?_|refine zk rfl rfl (fun _=>c74) rfl rfl ?_))
  (refine JK.fzL [0] [25,26,27] rfl ?_)
  (repeat (first|refine zs rfl ?_|refine zg rfl rfl rfl ?_|refine zd ?_|refine j6 ?_|refine j5 ?_|refine zc rfl (c71) rfl rfl ?_|refine ze rfl (c71) rfl ?_|refine zk rfl rfl (fun _=>c71) rfl rfl ?_))
  refine⟨.inl rfl,_,_,rfl,trivial,?_⟩;rfl
 ·have e1:bstI P l=[]:=by unfold bstI;rw[if_neg hz]
  have e2:lstI P l=0:=by unfold lstI;rw[if_neg hz]
  rw[e1,e2];rw[if_neg hz] at c61;generalize seE P l=z at hz c61 ⊢;refine zK9 ?_;refine q7 rfl (fun _=>?_) (fun h=>?_)
  ·refine zK0 ?_;refine⟨.inl rfl,_,_,rfl,trivial,?_⟩;rfl
  ·replace h:=zC h;omega
end Go.Proofs.YtjmhhehhfeengaaGreatDoor
namespace Go.Proofs.YtjmhhehhfeengaaGreatDoor.Pr
open Go Go.RowKit Ox Ox.Sh
attribute [local irreducible] JC JL JK JW
abbrev vI(n:Int):AV:=.val (.int .i64) n
abbrev vB(b:Bool):AV:=.val .bool b
abbrev vL(xs:List Int):AV:=.val (.slice (.int .i64)) xs
abbrev shT:Ty:=.cons (.int .i64) (.cons (.int .i64) (.cons (.int .i64) .nil))
abbrev vS(z:Sh):AV:=.val shT z
abbrev vD(l:List Sh):AV:=.val (.slice shT) l
abbrev pI(n:Int):AV:=.val (.ptr (.int .i64)) (some n)
abbrev vT2(a b:Int):AV:=.tup (.acons (vI a) (.acons (vI b) .anil))
def z9(xs:List α)(h:i<xs.length)(d:α):xs.getD i d=xs[i]:=by simp[yyj,yyo h]
def fn139(x lo hi:Int):Ox.Fn Tryz.prog 139 (.acons (vI x) (.acons (pI lo) (.acons (pI hi) .anil))) (·=vB (decide (x<lo∨x>hi))):=by refine Ox.Fn.intro xok Tryz.func139 rfl Tryz.call139 (yyc rfl) (fun E M0 up=>?_);refine z5 ?_;refine zK0 ?_;refine⟨.inl rfl,_,_,rfl,trivial,?_⟩;by_cases h:x<lo<;>simp[h]
def idxB{α:Type}(p:α→Bool):List α→Nat→Int
 |[],_=>-1
 |x::r,i=>if p x then(i:Int) else idxB p r (i+1)
def p8{α:Type}{p:α→Bool}:∀ {xs:List α} {i:Nat},(0≤idxB p xs i)↔xs.any p=true
 |[],i=>by simp[idxB]
 |x::r,i=>by
  simp only[idxB,List.any_cons,yy1];by_cases h:p x=true
  ·simp[h]
  ·rw[if_neg h,p8];simp[h]
variable{t1 t2:Ty}
def fn222{x1:t1.den}{x2:t2.den}(xs:List Int)(p:Int→Bool)(h:∀ x∈xs,Ox.Fn Tryz.prog f (.acons (vI x) (.acons (.val t1 x1) (.acons (.val t2 x2) .anil))) (·=vB (p x))) :
  Ox.Fn Tryz.prog 222 (.acons (vL xs) (.acons (.fn f .anil (.acons (.val t1 x1) (.acons (.val t2 x2) .anil))) .anil)) (·=vI (idxB p xs 0)):=by
 refine Ox.Fn.intro xok Tryz.func222 rfl Tryz.call222 (yyc rfl) (fun E M0 up=>?_);refine z5 ?_;refine JK.lenOf 0 rfl fun hlen=>?_;replace hlen:xs.length≤9223372036854775807:=hlen.1;refine zK0 ?_;refine JK.loop (fun i:Nat=>⟨[(0,vL xs),(1,.fn f .anil (.acons (.val t1 x1) (.acons (.val t2 x2) .anil))),(7,vI xs.length),(8,vI (i:Int))],[],0⟩) (fun i=>i≤xs.length∧idxB p xs 0=idxB p (xs.drop i) i) (fun i=>xs.length-i) 0 (by simp) (by exact zJ) fun i ⟨hi,hn⟩=>?_;refine zK0 ?_;refine q7 rfl (fun hc=>?_) (fun hc=>?_)
 ·replace hc:=zC hc;have hi':i<xs.length:=by omega
  have hx:=h (xs.getD i 0) (by rw[z9 xs hi'];exact yyv hi');refine zK11 ?_;refine q7 rfl (fun hd=>?_) (fun hd=>?_)
  ·refine zK0 ?_;refine⟨.inl rfl,_,_,rfl,trivial,?_⟩;rw[z9 xs hi'] at hd;rw[hn,yy8 hi',idxB,if_pos hd]
  ·refine zK0 ?_;rw[z9 xs hi'] at hd;refine⟨i+1,by exact zJ,⟨by omega,?_⟩,by omega⟩;rw[hn,yy8 hi',idxB,if_neg (by rw[hd];simp)]
 ·replace hc:=zC hc;refine zK0 ?_;refine⟨.inl rfl,_,_,rfl,trivial,?_⟩;obtain rfl:i=xs.length:=by omega
  rw[hn,List.drop_length];rfl
def fn138{x1:t1.den}{x2:t2.den}(xs:List Int)(p:Int→Bool)(h:∀ x∈xs,Ox.Fn Tryz.prog f (.acons (vI x) (.acons (.val t1 x1) (.acons (.val t2 x2) .anil))) (·=vB (p x))) :
  Ox.Fn Tryz.prog 138 (.acons (vL xs) (.acons (.fn f .anil (.acons (.val t1 x1) (.acons (.val t2 x2) .anil))) .anil)) (·=vB (xs.any p)):=by
 refine Ox.Fn.intro xok Tryz.func138 rfl Tryz.call138 (yyc rfl) (fun E M0 up=>?_);refine z5 ?_;refine zK16 ?_;refine⟨.inl rfl,_,_,rfl,trivial,?_⟩;refine congrArg vB ?_;rw[yy5,← p8 (p:=p) (i:=0)];simp
def fn77(lo hi:Int)(xs:List Int):Ox.Fn Tryz.prog 77 (.acons (vI lo) (.acons (vI hi) (.acons (vL xs) .anil))) (·=vB (decide (∀ x∈xs,lo≤x∧x≤hi))):=by
 refine Ox.Fn.intro xok Tryz.func77 rfl Tryz.call77 (yyc rfl) (fun E M0 up=>?_);refine z5 ?_
 (repeat (first|refine zs rfl ?_|refine zg rfl rfl rfl ?_|refine zd ?_|refine j6 ?_|refine j5 ?_|refine zc rfl (fn138 xs (fun x=>decide (x<lo∨x>hi)) (fun x _=>fn139 x lo hi)) rfl rfl ?_|refine ze rfl (fn138 xs (fun x=>decide (x<lo∨x>hi)) (fun x _=>fn139 x lo hi)) rfl ?_|refine zk rfl rfl (fun _=>fn138 xs (fun x=>decide (x<lo∨x>hi)) (fun x _=>fn139 x lo hi)) rfl rfl ?_))
 refine⟨.inl rfl,_,_,rfl,trivial,?_⟩;refine congrArg vB ?_;rw[yy5];simp only[yy6,List.any_eq_false,yyu];refine⟨fun h x hx=>?_,fun h x hx=>?_⟩
 ·have:=h x hx;omega
 ·have:=h x hx;omega
instance:DecidablePred okS:=fun s=>by unfold okS;infer_instance
def fn146(s:Sh):Ox.Fn Tryz.prog 146 (.acons (vS s) .anil) (·=vB (!decide (okS s))):=by
 obtain⟨a,b,c,_⟩:=s;refine Ox.Fn.intro xok Tryz.func146 rfl Tryz.call146 (yyc rfl) (fun E M0 up=>?_);refine z5 ?_;have h52:=fn77 0 1000 (a::b::c::List.nil);refine zK22 ?_;refine⟨.inl rfl,_,_,rfl,trivial,?_⟩;refine congrArg (fun b=>vB (!b)) ?_;refine decide_eq_decide.2 ?_;simp only[List.forall_mem_cons,yxz,false_implies,implies_true,and_true,okS];constructor
 ·rintro⟨h1,h2,h3⟩;exact⟨h1.1,h1.2,h2.1,h2.2,h3.1,h3.2⟩
 ·rintro⟨h1,h2,h3,h4,h5,h6⟩;exact⟨⟨h1,h2⟩,⟨h3,h4⟩,h5,h6⟩
def fn225(xs:List Sh)(p:Sh→Bool)(h:∀ x∈xs,Ox.Fn Tryz.prog f (.acons (vS x) .anil) (·=vB (p x))) :
  Ox.Fn Tryz.prog 225 (.acons (vD xs) (.acons (.fn f .anil .anil) .anil)) (·=vI (idxB p xs 0)):=by
 refine Ox.Fn.intro xok Tryz.func225 rfl Tryz.call225 (yyc rfl) (fun E M0 up=>?_);refine z5 ?_;refine JK.lenOf 0 rfl fun hlen=>?_;replace hlen:xs.length≤9223372036854775807:=hlen.1;refine zK0 ?_;refine JK.loop (fun i:Nat=>⟨[(0,vD xs),(1,.fn f .anil .anil),(7,vI xs.length),(8,vI (i:Int))],[],0⟩) (fun i=>i≤xs.length∧idxB p xs 0=idxB p (xs.drop i) i) (fun i=>xs.length-i) 0 (by simp) (by exact zJ) fun i ⟨hi,hn⟩=>?_;refine zK0 ?_;refine q7 rfl (fun hc=>?_) (fun hc=>?_)
 ·replace hc:=zC hc;have hi':i<xs.length:=by omega
  have hx:=h (xs.getD i z0) (by rw[z9 xs hi'];exact yyv hi');refine zK11 ?_;refine q7 rfl (fun hd=>?_) (fun hd=>?_)
  ·refine zK0 ?_;refine⟨.inl rfl,_,_,rfl,trivial,?_⟩;rw[z9 xs hi'] at hd;rw[hn,yy8 hi',idxB,if_pos hd]
  ·refine zK0 ?_;rw[z9 xs hi'] at hd;refine⟨i+1,by exact zJ,⟨by omega,?_⟩,by omega⟩;rw[hn,yy8 hi',idxB,if_neg (by rw[hd];simp)]
 ·replace hc:=zC hc;refine zK0 ?_;refine⟨.inl rfl,_,_,rfl,trivial,?_⟩;obtain rfl:i=xs.length:=by omega
  rw[hn,List.drop_length];rfl
def fn147(xs:List Sh)(p:Sh→Bool)(h:∀ x∈xs,Ox.Fn Tryz.prog f (.acons (vS x) .anil) (·=vB (p x))) :
  Ox.Fn Tryz.prog 147 (.acons (vD xs) (.acons (.fn f .anil .anil) .anil)) (·=vB (xs.any p)):=by
 refine Ox.Fn.intro xok Tryz.func147 rfl Tryz.call147 (yyc rfl) (fun E M0 up=>?_);refine z5 ?_
 (repeat (first|refine zs rfl ?_|refine zg rfl rfl rfl ?_|refine zd ?_|refine j6 ?_|refine j5 ?_|refine zc rfl (fn225 xs p h) rfl rfl ?_|refine ze rfl (fn225 xs p h) rfl ?_|refine zk rfl rfl (fun _=>fn225 xs p h) rfl rfl ?_))
 refine⟨.inl rfl,_,_,rfl,trivial,?_⟩;refine congrArg vB ?_;rw[yy5,← p8 (p:=p) (i:=0)];simp
def dayE(l:List Sh):Int:=if l.length<1∨l.length>8 then 6 else if l.any (fun s=>!decide (okS s))=true then 3 else 0
variable{l:List Sh}
def q89(h:dayE l=0):1≤l.length∧l.length≤8∧okD l:=by
 unfold dayE at h;split at h
 ·omega
 ·split at h
  ·omega
  ·rename_i h1 h2;refine⟨by omega,by omega,fun s hs=>?_⟩;have:=List.any_eq_false.1 (Bool.not_eq_true _▸h2) s hs;simpa using this
def day_of(h1:1≤l.length)(h2:l.length≤8)(h3:okD l):dayE l=0:=by unfold dayE;rw[if_neg (by omega),if_neg];rw[Bool.not_eq_true,List.any_eq_false];intro s hs;simpa using h3 s hs
def fn91(l:List Sh):Ox.Fn Tryz.prog 91 (.acons (vD l) .anil) (·=vI (dayE l)):=by
 refine Ox.Fn.intro xok Tryz.func91 rfl Tryz.call91 (yyc rfl) (fun E M0 up=>?_);refine z5 ?_;refine JK.lenOf 0 rfl fun hlen=>?_;replace hlen:l.length≤9223372036854775807:=hlen.1;refine zK0 ?_;refine q7 rfl (fun hc=>?_) (fun hc=>?_)
 ·replace hc:=zC hc;refine zK0 ?_;refine⟨.inl rfl,_,_,rfl,trivial,?_⟩;rw[dayE,if_pos (by omega)]
 ·replace hc:=zC hc
  (repeat (first|refine zs rfl ?_|refine zg rfl rfl rfl ?_|refine zd ?_|refine j6 ?_|refine j5 ?_|refine zc rfl (fn147 l (fun s=>!decide (okS s)) (fun s _=>fn146 s)) rfl rfl ?_|refine ze rfl (fn147 l (fun s=>!decide (okS s)) (fun s _=>fn146 s)) rfl ?_|refine zk rfl rfl (fun _=>fn147 l (fun s=>!decide (okS s)) (fun s _=>fn146 s)) rfl rfl ?_))
  refine q7 rfl (fun hd=>?_) (fun hd=>?_)
  ·refine zK0 ?_;refine⟨.inl rfl,_,_,rfl,trivial,?_⟩;rw[dayE,if_neg (by omega),if_pos hd]
  ·refine zK0 ?_;refine⟨.inl rfl,_,_,rfl,trivial,?_⟩;rw[dayE,if_neg (by omega),if_neg (by rw[hd];simp)]
def fn49(n:Int):Ox.Fn Tryz.prog 49 (.acons (vI n) .anil) (·=vB (decide (0≤n∧n≤1000))):=by refine Ox.Fn.intro xok Tryz.func49 rfl Tryz.call49 (yyc rfl) (fun E M0 up=>?_);refine z5 ?_;refine zK0 ?_;refine⟨.inl rfl,_,_,rfl,trivial,?_⟩;by_cases h:0≤n<;>simp[h]
def fn21(l:List Sh):Ox.Fn Tryz.prog 21 (.acons (vD l) .anil) (·=vI (dayE l)):=by
 refine Ox.Fn.intro xok Tryz.func21 rfl Tryz.call21 (yyc rfl) (fun E M0 up=>?_);refine z5 ?_;refine JK.lenOf 0 rfl fun hlen=>?_;replace hlen:l.length≤9223372036854775807:=hlen.1;refine zK0 ?_;refine q7 rfl (fun hc=>?_) (fun hc=>?_)
 ·replace hc:=zC hc;refine zK0 ?_;refine⟨.inl rfl,_,_,rfl,trivial,?_⟩;rw[dayE,if_pos (by omega)]
 ·replace hc:=zC hc;refine zK0 ?_;refine JK.loop (fun i:Nat=>⟨[(0,vD l),(3,vI (i:Int))],[],0⟩) (fun i=>i≤l.length∧∀ s∈l.take i,okS s) (fun i=>l.length-i) 0 (by simp) (by exact zJ) fun i ⟨hi,hn⟩=>?_;refine zK0 ?_;refine q7 rfl (fun hd=>?_) (fun hd=>?_)
  ·replace hd:=zC hd;have hi':i<l.length:=by omega
   have e1:=fn49 (da (l.getD i z0));have e2:=fn49 (dr (l.getD i z0));have e3:=fn49 (dp (l.getD i z0));have hmem:l.getD i z0∈l:=by rw[z9 l hi'];exact yyv hi'
   have htk:l.take (i+1)=l.take i++[l.getD i z0]:=by rw[List.take_succ,yyo hi',z9 l hi'];rfl
   (repeat (first|refine zs rfl ?_|refine zg rfl rfl rfl ?_|refine zd ?_|refine j6 ?_|refine j5 ?_|refine zc rfl (e1) rfl rfl ?_|refine ze rfl (e1) rfl ?_|refine zk rfl rfl (fun _=>e1) rfl rfl ?_|refine zc rfl (e2) rfl rfl ?_|refine ze rfl (e2) rfl ?_|refine zk rfl rfl (fun _=>e2) rfl rfl ?_|refine zc rfl (e3) rfl rfl ?_|refine ze rfl (e3) rfl ?_|refine zk rfl rfl (fun _=>e3) rfl rfl ?_))
   refine q7 rfl (fun he=>?_) (fun he=>?_)
   ·have he':¬ okS (l.getD i z0):=fun h=>by unfold okS at h;simp at he;rw[yyj] at h;omega
    refine zK0 ?_;refine⟨.inl rfl,_,_,rfl,trivial,?_⟩;rw[dayE,if_neg (by omega),if_pos];rw[List.any_eq_true];exact⟨_,hmem,by simpa using he'⟩
   ·have he':okS (l.getD i z0):=by unfold okS;simp at he;rw[yyj];omega
    refine zK0 ?_;refine⟨i+1,by exact zJ,⟨by omega,fun s hs=>?_⟩,by omega⟩;rw[htk] at hs;rcases yy2.1 hs with hs|hs
    ·exact hn s hs
    ·rw[yyl.1 hs];exact he'
  ·replace hd:=zC hd;refine zK0 ?_;refine⟨.inl rfl,_,_,rfl,trivial,?_⟩;obtain rfl:i=l.length:=by omega
   rw[yxj] at hn;rw[day_of (by omega) (by omega) hn]
def fn81(xs:List Int)(b:Int):Ox.Fn Tryz.prog 81 (.acons (vL xs) (.acons (vI b) .anil)) (·=vI (idxB (fun x=>decide (b=x)) xs 0)):=by
 refine Ox.Fn.intro xok Tryz.func81 rfl Tryz.call81 (yyc rfl) (fun E M0 up=>?_);refine z5 ?_;refine JK.lenOf 0 rfl fun hlen=>?_;replace hlen:xs.length≤9223372036854775807:=hlen.1;refine zK0 ?_;refine JK.loop (fun i:Nat=>⟨[(0,vL xs),(1,vI b),(7,vI xs.length),(8,vI (i:Int))],[],0⟩) (fun i=>i≤xs.length∧idxB (fun x=>decide (b=x)) xs 0=idxB (fun x=>decide (b=x)) (xs.drop i) i) (fun i=>xs.length-i) 0 (by simp) (by exact zJ) fun i ⟨hi,hn⟩=>?_;refine zK0 ?_;refine q7 rfl (fun hc=>?_) (fun hc=>?_)
 ·replace hc:=zC hc;have hi':i<xs.length:=by omega
  refine zK0 ?_;refine q7 rfl (fun hd=>?_) (fun hd=>?_)
  ·replace hd:=zC hd;refine zK0 ?_;refine⟨.inl rfl,_,_,rfl,trivial,?_⟩;rw[z9 xs hi'] at hd;rw[hn,yy8 hi',idxB,if_pos (by simpa using hd)]
  ·replace hd:=zC hd;refine zK0 ?_;rw[z9 xs hi'] at hd;refine⟨i+1,by exact zJ,⟨by omega,?_⟩,by omega⟩;rw[hn,yy8 hi',idxB,if_neg (by simpa using hd)]
 ·replace hc:=zC hc;refine zK0 ?_;refine⟨.inl rfl,_,_,rfl,trivial,?_⟩;obtain rfl:i=xs.length:=by omega
  rw[hn,List.drop_length];rfl
def fn148(xs:List Int)(b:Int):Ox.Fn Tryz.prog 148 (.acons (vL xs) (.acons (vI b) .anil)) (·=vB (decide (b∈xs))):=by
 refine Ox.Fn.intro xok Tryz.func148 rfl Tryz.call148 (yyc rfl) (fun E M0 up=>?_);refine z5 ?_
 (repeat (first|refine zs rfl ?_|refine zg rfl rfl rfl ?_|refine zd ?_|refine j6 ?_|refine j5 ?_|refine zc rfl (fn81 xs b) rfl rfl ?_|refine ze rfl (fn81 xs b) rfl ?_|refine zk rfl rfl (fun _=>fn81 xs b) rfl rfl ?_))
 refine⟨.inl rfl,_,_,rfl,trivial,?_⟩;refine congrArg vB ?_;rw[yy5];simp only[yyu];refine(p8 (p:=fun x=>decide (b=x)) (i:=0)).trans ?_;simp
abbrev dayT:Ty:=.cons (.slice shT) (.cons (.int .i64) .nil)
abbrev shopT:Ty:=.cons dayT (.cons (.int .i64) .nil)
abbrev vH(l:List Sh)(pr le:Int):AV:=.val (.ptr shopT) (some ((l,pr,()),le,()))
abbrev ppH(l:List Sh)(pr le:Int):AV:=.val (.ptr (.ptr shopT)) (some (some ((l,pr,()),le,())))
abbrev vP(z:Int×Int×Int×Unit):AV:=.val shT z
def z21(h:okD l)(n:Nat):0≤(l.getD n (0,0,0,())).1∧(l.getD n (0,0,0,())).1≤1000∧0≤(l.getD n (0,0,0,())).2.1∧(l.getD n (0,0,0,())).2.1≤1000∧0≤(l.getD n (0,0,0,())).2.2.1∧(l.getD n (0,0,0,())).2.2.1≤1000:=h.get n
def fn137(l:List Sh)(pr le:Int)(n:Nat)(f:Bool)(hl:okD l)(hn:n<l.length):Ox.Fn Tryz.prog 137 (.acons (vH l pr le) (.acons (vI n) (.acons (vB f) .anil))) (·=vI (wait l f n)):=by
 refine Ox.Fn.intro xok Tryz.func137 rfl Tryz.call137 (yyc rfl) (fun E M0 up=>?_);refine z5 ?_;have hb:=z21 hl n;refine zK1 ?_;refine q7 rfl (fun hc=>?_) (fun hc=>?_)
 ·refine zK1 ?_;refine⟨.inl rfl,_,_,rfl,trivial,?_⟩;rw[hc];rfl
 ·refine zK1 ?_;refine⟨.inl rfl,_,_,rfl,trivial,?_⟩;rw[hc];rfl
def fn149(l:List Sh)(pr le:Int)(n:Nat)(hl:okD l)(hn:n<l.length):Ox.Fn Tryz.prog 149 (.acons (vI n) (.acons (ppH l pr le) .anil)) (·=vI (al (l.getD n z0))):=by refine Ox.Fn.intro xok Tryz.func149 rfl Tryz.call149 (yyc rfl) (fun E M0 up=>?_);refine z5 ?_;have hb:=z21 hl n;refine zK1 ?_;refine⟨.inl rfl,_,_,rfl,trivial,?_⟩;rfl
def fn150(l:List Sh)(pr le:Int)(n:Nat)(hl:okD l)(hn:n<l.length):Ox.Fn Tryz.prog 150 (.acons (vI n) (.acons (ppH l pr le) .anil)) (·=vI (be (l.getD n z0))):=by refine Ox.Fn.intro xok Tryz.func150 rfl Tryz.call150 (yyc rfl) (fun E M0 up=>?_);refine z5 ?_;have hb:=z21 hl n;refine zK1 ?_;refine⟨.inl rfl,_,_,rfl,trivial,?_⟩;rfl
abbrev rkF(l:List Sh)(pr le:Int):AV:=.fn 151 .anil (.acons (ppH l pr le) (.acons (.pfn (.fn 149 .anil (.acons (ppH l pr le) .anil))) (.acons (.pfn (.fn 150 .anil (.acons (ppH l pr le) .anil))) .anil)))
def fn151(l:List Sh)(pr le:Int)(n:Nat)(hl:okD l)(hn:n<l.length) :
  Ox.Fn Tryz.prog 151 (.acons (vI n) (.acons (ppH l pr le) (.acons (.pfn (.fn 149 .anil (.acons (ppH l pr le) .anil))) (.acons (.pfn (.fn 150 .anil (.acons (ppH l pr le) .anil))) .anil)))) (·=vI (rk l n)):=by
 refine Ox.Fn.intro xok Tryz.func151 rfl Tryz.call151 (yyc rfl) (fun E M0 up=>?_);refine z5 ?_;have hb:=z21 hl n;have h86:=fn149 l pr le n hl hn;have h87:=fn150 l pr le n hl hn;have hbe:0≤be (l.getD n z0)∧be (l.getD n z0)≤2000:=by show 0≤(l.getD n (0,0,0,())).2.1+(l.getD n (0,0,0,())).2.2.1∧(l.getD n (0,0,0,())).2.1+(l.getD n (0,0,0,())).2.2.1≤2000;omega
 generalize hbv:be (l.getD n z0)=bv at h87 hbe;refine zK15 ?_;refine q7 rfl (fun hc=>?_) (fun hc=>?_)
 ·replace hc:=zC hc;refine zK15 ?_;refine⟨.inl rfl,_,_,rfl,trivial,?_⟩;rw[rk,rankS,if_pos hc]
 ·replace hc:=zC hc;refine zK15 ?_;refine⟨.inl rfl,_,_,rfl,trivial,?_⟩;rw[rk,rankS,if_neg hc,hbv]
abbrev iL(o:List Nat):List Int:=o.map fun n:Nat=>(n:Int)
abbrev vR(r:List Int):AV:=.val (.arr 8 (.int .i64)) r
def q1g(o:List Nat)(i:Nat):(iL o).getD i 0=((o.getD i 0:Nat):Int):=by
 by_cases h:i<o.length
 ·simp[yyj,yyo h]
 ·simp[yyj,yxe (Nat.le_of_not_lt h)]
def q44(o:List Nat)(k:Nat):iL (o++[k])=iL o++[(k:Int)]:=by simp
def ownL(r:List Int)(k:Nat):List Nat:=(List.range k).filter fun n=>decide (r.getD n 0=1)
def j1d(r:List Int)(k:Nat):ownL r (k+1)=ownL r k++if r.getD k 0=1 then [k] else []:=by unfold ownL;rw[List.range_succ,List.filter_append];congr 1;simp only[List.filter_cons,List.filter_nil,yyu]
def ownL_len(r:List Int)(k:Nat):(ownL r k).length≤k:=by have:=yx8 (fun n=>decide (r.getD n 0=1)) (List.range k);rw[List.length_range] at this;exact this
def fn76(r:List Int)(hr:r.length=8):Ox.Fn Tryz.prog 76 (.acons (vR r) .anil) (·=vL (iL (ownL r 8))):=by
 refine Ox.Fn.intro xok Tryz.func76 rfl Tryz.call76 (yyc rfl) (fun E M0 up=>?_);refine z5 ?_;refine zK12 ?_;refine JK.ghost 3 3 (.int .i64) rfl ?_;refine zK1 ?_;refine JK.loop (fun k:Nat=>⟨[(3,.lf (.osl 0)),(6,vR r),(7,vI (k:Int))],[(0,.sl 3 (.int .i64) (iL (ownL r k)))],1⟩) (fun k=>k≤8) (fun k=>8-k) 0 (yy7 _) (by exact zJ) fun k hk=>?_;have hln:=ownL_len r k;have hnx:=j1d r k;have hl:(iL (ownL r k)).length≤8:=by rw[yxy];omega
 have hfin:k=8→ownL r k=ownL r 8:=fun e=>by rw[e]
 generalize ownL r k=o at hln hnx hl hfin ⊢;refine zK1 ?_;refine q7 rfl (fun hc=>?_) (fun hc=>?_)
 ·replace hc:=zC hc;refine zK1 ?_;refine q7 rfl (fun hd=>?_) (fun hd=>?_)
  ·replace hd:=zC hd;rw[if_pos (by exact hd)] at hnx;refine zK1 ?_;refine⟨k+1,?_,by omega,by omega⟩;rw[hnx,q44];exact zJ
  ·replace hd:=zC hd;rw[if_neg (by exact hd),yxv] at hnx;refine zK1 ?_;refine⟨k+1,?_,by omega,by omega⟩;rw[hnx];exact zJ
 ·replace hc:=zC hc;refine zK1 ?_;refine⟨.inl rfl,_,_,rfl,trivial,?_⟩;rw[hfin (by omega)]
def maxL:List Int→Int
 |[]=>0
 |x::r=>r.foldl Max.max x
def q5o(h:xs≠[])(x:Int):maxL (xs++[x])=Max.max (maxL xs) x:=by
 cases xs with
 |nil=>exact absurd rfl h
 |cons y r=>rw[List.cons_append,maxL,maxL,List.foldl_append];rfl
def fn145(xs:List Int)(h:1≤xs.length):Ox.Fn Tryz.prog 145 (.acons (vL xs) .anil) (·=vI (maxL xs)):=by
 refine Ox.Fn.intro xok Tryz.func145 rfl Tryz.call145 (yyc rfl) (fun E M0 up=>?_);refine z5 ?_;refine JK.lenOf 0 rfl fun hlen=>?_;replace hlen:xs.length≤9223372036854775807:=hlen.1;refine zK1 ?_;refine q7 rfl (fun hc=>?_) (fun hc=>?_)
 ·replace hc:=zC hc;omega
 ·refine zK1 ?_;refine JK.loop (fun k:Nat=>⟨[(0,vL xs),(3,vI (maxL (xs.take k))),(4,vI (k:Int))],[],0⟩) (fun k=>1≤k∧k≤xs.length) (fun k=>xs.length-k) 1 ⟨yyn _,h⟩ ?_ fun k ⟨hk1,hk⟩=>?_
  ·have e:maxL (xs.take 1)=xs.getD 0 0:=by
    cases xs with
    |nil=>simp at h
    |cons x r=>rfl
   rw[e];exact zJ
  ·have hnx:k<xs.length→maxL (xs.take (k+1))=Max.max (maxL (xs.take k)) (xs.getD k 0):=fun hlt=>by rw[List.take_succ,yyo hlt,z9 xs hlt];exact q5o (by intro e;have:=congrArg List.length e;rw[yy3,List.length_nil] at this;omega) _
   refine zK1 ?_;refine q7 rfl (fun hd=>?_) (fun hd=>?_)
   ·replace hd:=zC hd;refine zK1 ?_;refine⟨k+1,?_,⟨by omega,by omega⟩,by omega⟩;rw[hnx (by omega)];exact zJ
   ·replace hd:=zC hd;refine zK1 ?_;refine⟨.inl rfl,_,_,rfl,trivial,?_⟩;rw[yxt (by omega)]
def q8p{α:Type}(g:α→Int)(x:α):∀ (r:List α) (b:α),leastG g b (r++[x])=if g x<g (leastG g b r) then x else leastG g b r
 |[],b=>rfl
 |y::r,b=>by rw[List.cons_append,leastG,leastG,q8p g x r]
def fn135r(l:List Sh)(pr le:Int)(hl:okD l)(b:Nat)(r:List Nat)(h:∀ n∈b::r,n<l.length):Ox.Fn Tryz.prog 135 (.acons (vL (iL (b::r))) (.acons (rkF l pr le) .anil)) (·=vI (leastG (rk l) b r:Nat)):=by
 refine Ox.Fn.intro xok Tryz.func135 rfl Tryz.call135 (yyc rfl) (fun E M0 up=>?_);refine z5 ?_;refine JK.lenOf 0 rfl fun hlen=>?_;replace hlen:(iL (b::r)).length≤9223372036854775807:=hlen.1;have hil:(iL (b::r)).length=r.length+1:=by simp
 have hil2:(iL r).length=r.length:=by simp
 refine zK1 ?_;refine JK.loop (fun i:Nat=>⟨[(1,(rkF l pr le)),(5,vI (leastG (rk l) b (r.take i):Nat)),(12,vL (iL r)),(13,vI r.length),(14,vI (i:Int))],[],0⟩) (fun i=>i≤r.length) (fun i=>r.length-i) 0 (yy7 _) ?_ fun i hi=>?_
 ·have e1:(r.length:Int)=((List.drop (1:Int).toNat (iL (b::r))).length:Int):=by simp
  have e2:iL r=List.drop (1:Int).toNat (iL (b::r)):=rfl;have e3:vI ((leastG (rk l) b (r.take 0):Nat):Int)=vI ((iL (b::r)).getD (0:Int).toNat 0):=rfl;rw[e1,e2,e3];exact zJ
 ·have hm:leastG (rk l) b (r.take i)<l.length:=by
   have:=(q00 (rk l) (r.take i) b).1;rcases yyk.1 this with e|e
   ·rw[e];exact h b yyg
   ·exact h _ (yyh _ (List.mem_of_mem_take e))
  have hnx:i<r.length→leastG (rk l) b (r.take (i+1))=if (rk l) (r.getD i 0)<(rk l) (leastG (rk l) b (r.take i)) then r.getD i 0 else leastG (rk l) b (r.take i):=fun hlt=>by rw[List.take_succ,yyo hlt,z9 r hlt];exact q8p _ _ _ _
  have hfin:i=r.length→leastG (rk l) b (r.take i)=leastG (rk l) b r:=fun e=>by rw[e,yxj]
  generalize leastG (rk l) b (r.take i)=w at hm hnx hfin ⊢;refine zK1 ?_;refine q7 rfl (fun hc=>?_) (fun hc=>?_)
  ·replace hc:=zC hc;have hi':i<r.length:=by omega
   have hnx':=hnx hi';have hx:r.getD i 0<l.length:=by rw[z9 r hi'];exact h _ (yyh _ (yyv hi'))
   have eX:(iL r).getD ((i:Int)).toNat (0:Int)=((r.getD i 0:Nat):Int):=q1g r i;generalize r.getD i 0=x at hnx' hx eX;have h1:=fn151 l pr le x hl hx;have h2:=fn151 l pr le w hl hm;rw[← eX] at h1
   (repeat (first|refine zs rfl ?_|refine zg rfl rfl rfl ?_|refine zd ?_|refine j6 ?_|refine j5 ?_|refine zlf u5 rfl rfl rfl ?_|refine zdf u5 rfl rfl ?_|refine zc rfl (h1) rfl rfl ?_|refine ze rfl (h1) rfl ?_|refine zk rfl rfl (fun _=>h1) rfl rfl ?_|refine zc rfl (h2) rfl rfl ?_|refine ze rfl (h2) rfl ?_|refine zk rfl rfl (fun _=>h2) rfl rfl ?_))
   refine q7 rfl (fun hd=>?_) (fun hd=>?_)
   ·replace hd:=zC hd;rw[if_pos hd] at hnx';refine zK1 ?_;refine⟨i+1,?_,by omega,by omega⟩;rw[hnx',← eX];exact zJ
   ·replace hd:=zC hd;rw[if_neg hd] at hnx';refine zK1 ?_;refine⟨i+1,?_,by omega,by omega⟩;rw[hnx'];exact zJ
  ·replace hc:=zC hc;refine zK1 ?_;refine⟨.inl rfl,_,_,rfl,trivial,?_⟩;rw[hfin (by omega)]
def fn153(k n:Int):Ox.Fn Tryz.prog 153 (.acons (vI k) (.acons (pI n) .anil)) (·=vB (decide (k=n))):=by refine Ox.Fn.intro xok Tryz.func153 rfl Tryz.call153 (yyc rfl) (fun E M0 up=>?_);refine z5 ?_;refine zK1 ?_;refine⟨.inl rfl,_,_,rfl,trivial,?_⟩;refine congrArg vB ?_;rw[yy5];simp
def fn218(xs:List Int)(n:Int):Ox.Fn Tryz.prog 218 (.acons (vL xs) (.acons (.fn 153 .anil (.acons (pI n) .anil)) .anil)) (·=vI (idxB (fun x=>decide (x=n)) xs 0)):=by
 refine Ox.Fn.intro xok Tryz.func218 rfl Tryz.call218 (yyc rfl) (fun E M0 up=>?_);refine z5 ?_;refine JK.lenOf 0 rfl fun hlen=>?_;replace hlen:xs.length≤9223372036854775807:=hlen.1;refine zK1 ?_;refine JK.loop (fun i:Nat=>⟨[(0,vL xs),(1,.fn 153 .anil (.acons (pI n) .anil)),(7,vI xs.length),(8,vI (i:Int))],[],0⟩) (fun i=>i≤xs.length∧idxB (fun x=>decide (x=n)) xs 0=idxB (fun x=>decide (x=n)) (xs.drop i) i) (fun i=>xs.length-i) 0 (by simp) (by exact zJ) fun i ⟨hi,hn⟩=>?_;refine zK1 ?_;refine q7 rfl (fun hc=>?_) (fun hc=>?_)
 ·replace hc:=zC hc;have hi':i<xs.length:=by omega
  have hx:=fn153 (xs.getD i 0) n
  (repeat (first|refine zs rfl ?_|refine zg rfl rfl rfl ?_|refine zd ?_|refine j6 ?_|refine j5 ?_|refine zlf u5 rfl rfl rfl ?_|refine zdf u5 rfl rfl ?_|refine zc rfl (hx) rfl rfl ?_|refine ze rfl (hx) rfl ?_|refine zk rfl rfl (fun _=>hx) rfl rfl ?_))
  refine q7 rfl (fun hd=>?_) (fun hd=>?_)
  ·refine zK1 ?_;refine⟨.inl rfl,_,_,rfl,trivial,?_⟩;rw[z9 xs hi'] at hd;rw[hn,yy8 hi',idxB,if_pos hd]
  ·refine zK1 ?_;rw[z9 xs hi'] at hd;refine⟨i+1,by exact zJ,⟨by omega,?_⟩,by omega⟩;rw[hn,yy8 hi',idxB,if_neg (by rw[hd];simp)]
 ·replace hc:=zC hc;refine zK1 ?_;refine⟨.inl rfl,_,_,rfl,trivial,?_⟩;obtain rfl:i=xs.length:=by omega
  rw[hn,List.drop_length];rfl
def orN(t:Nat)(o:List Nat):Nat:=o.foldl (fun t n=>t ||| 2 ^ n) t
def q3u(t:Nat)(o:List Nat)(n:Nat):orN t (o++[n])=orN t o ||| 2 ^ n:=by unfold orN;rw[List.foldl_append];rfl
def or_lt{t n:Nat}(ht:t<256)(hn:n<8):t ||| 2 ^ n<256:=Nat.or_lt_two_pow (n:=8) ht (by have:=Nat.pow_lt_pow_right (a:=2) (by omega) hn;omega)
def q8i:∀ {o:List Nat} {t:Nat},t<256→(∀ n∈o,n<8)→orN t o<256
 |[],_,ht,_=>ht
 |n::o,t,ht,h=>q8i (o:=o) (or_lt ht (h n yyg)) fun k hk=>h k (yyh _ hk)
def q30(l:List Sh)(p:Int×Int)(o:List Nat)(n:Nat):endP l p (o++[n])=nx l (endP l p o) n:=by rw[q0u];rfl
def nx_bd(hl:okD l){p:Int×Int}{B:Int}(n:Nat)(h1:0≤p.1∧p.1≤B)(h2:0≤p.2∧p.2≤B+2000):(0≤(nx l p n).1∧(nx l p n).1≤B+1000)∧0≤(nx l p n).2∧(nx l p n).2≤B+3000:=by have h:=hl.get n;unfold okS at h;unfold nx;dsimp only;omega
def q4t{l:List Sh}(hl:okD l):∀ (o:List Nat) {p:Int×Int} {B:Int},0≤p.1∧p.1≤B→0≤p.2∧p.2≤B+2000→(0≤(endP l p o).1∧(endP l p o).1≤B+1000*o.length)∧0≤(endP l p o).2∧(endP l p o).2≤B+2000+1000*o.length
 |[],p,B,h1,h2=>by have e:endP l p []=p:=rfl;rw[e,List.length_nil];omega
 |n::o,p,B,h1,h2=>by
  have h3:=nx_bd hl n h1 h2;have h4:=q4t hl o (p:=nx l p n) (B:=B+1000) h3.1 (by omega);rw[q0k,List.length_cons]
  push_cast
  omega
def fn94(l:List Sh)(pr le:Int)(t:Nat)(b p:Int)(n:Nat)(hl:okD l)(hn:n<l.length)(h8:l.length≤8)(ht:t<256)(hb:0≤b∧b≤100000)(hp:0≤p∧p≤100000) :
  Ox.Fn Tryz.prog 94 (.acons (vH l pr le) (.acons (vP ((t:Int),b,p,())) (.acons (vI n) .anil))) (·=vP (((t ||| 2 ^ n:Nat):Int),(nx l (b,p) n).1,(nx l (b,p) n).2,())):=by
 refine Ox.Fn.intro xok Tryz.func94 rfl Tryz.call94 (yyc rfl) (fun E M0 up=>?_);refine z5 ?_;have hs:=z21 hl n;have hx:nx l (b,p) n=(b+(l.getD n (0,0,0,())).1,Max.max (b+(l.getD n (0,0,0,())).1+(l.getD n (0,0,0,())).2.1) p+(l.getD n (0,0,0,())).2.2.1):=rfl;rw[hx];have hpl:2 ^ n<256:=Nat.pow_lt_pow_right (a:=2) (by omega) (by omega:n<8);have hpw:(2:Int) ^ n=((2 ^ n:Nat):Int):=by push_cast;rfl
 generalize 2 ^ n=pw at hpl hpw ⊢;have hpb:0≤(2:Int) ^ n∧(2:Int) ^ n≤256:=by rw[hpw];omega
 have hor:((t ||| pw:Nat):Int)=(((t:Int).toNat ||| ((1:Int)*2 ^ ((n:Int)).toNat).toNat:Nat):Int):=by rw[Int.toNat_natCast,Int.toNat_natCast,Int.one_mul,hpw,Int.toNat_natCast]
 rw[hor];clear hor hpw;refine zK12 ?_;refine q0m (s':=⟨[(2,vI n),(4,.lf (.optr 0 [])),(6,.lf (.optr 1 [])),(7,.lf (.optr 2 [])),(8,vI (b+(l.getD n (0,0,0,())).1))],[(0,.cell shT (vP ((t:Int),b,p,()))),(1,.cell shT (zav shT)),(2,.cell shT (vS (l.getD n (0,0,0,()))))],3⟩) (by exact zJ) ?_;generalize l.getD n (0,0,0,())=s at hs ⊢;obtain⟨s1,s2,s3,_⟩:=s;dsimp only at hs ⊢;refine q05 xk (Tryz.f94.body.getD .skip) ⟨[(6,.lf (.optr 1 []))],[(1,.cell shT (vP ((((t:Int).toNat ||| ((1:Int)*2 ^ ((n:Int)).toNat).toNat:Nat):Int),b+s1,Max.max (b+s1+s2) p+s3,())))],3⟩ rfl 18 rfl ?_ ?_
 ·(refine q9 0 xk rfl rfl (q9 2 xk rfl rfl (q9 3 xk rfl rfl (q9 5 xk rfl rfl (q9 6 xk rfl rfl (q9 7 xk rfl rfl (q9 10 xk rfl rfl (q9 13 xk rfl rfl (z8 1 xk rfl rfl (z8 4 xk rfl rfl (z8 8 xk rfl rfl (z8 9 xk rfl rfl (z8 11 xk rfl rfl (z8 12 xk rfl rfl (z8 14 xk rfl rfl (z8 15 xk rfl rfl (zU 16 xk rfl rfl ?_))))))))))))))));(first|refine q4n xk rfl rfl ?_|refine q7h xk rfl rfl ?_);refine w8 ?_;refine zU 17 xk rfl rfl ?_;(first|refine JL.M0 xk rfl ?_);refine w8 ?_;refine n8 xk StF.nil ?_;(exact zJ))
 ·refine zK1 ?_;refine⟨.inl rfl,_,_,rfl,trivial,?_⟩;rfl
def fn93(l:List Sh)(pr le:Int)(t:Nat)(b p:Int)(o:List Nat)(hl:okD l)(h8:l.length≤8)(ho:∀ n∈o,n<l.length)(hol:o.length≤8)(ht:t<256)(hb:0≤b∧b≤20000)(hp:0≤p∧p≤22000) :
  Ox.Fn Tryz.prog 93 (.acons (vH l pr le) (.acons (vL (iL o)) (.acons (vP ((t:Int),b,p,())) .anil))) (·=vI (endS l (b,p) o)):=by
 refine Ox.Fn.intro xok Tryz.func93 rfl Tryz.call93 (yyc rfl) (fun E M0 up=>?_);refine z5 ?_;have hil:(iL o).length=o.length:=by simp
 refine zK1 ?_;refine JK.loop (fun i:Nat=>⟨[(0,vH l pr le),(5,.lf (.optr 0 [])),(9,vL (iL o)),(10,vI o.length),(11,vI (i:Int))],[(0,.cell shT (vP ((orN t (o.take i):Nat),(endP l (b,p) (o.take i)).1,(endP l (b,p) (o.take i)).2,())))],1⟩)
  (fun i=>i≤o.length) (fun i=>o.length-i) 0 (yy7 _) ?_ fun i hi=>?_
 ·have e:(o.length:Int)=((iL o).length:Int):=by rw[hil]
  rw[e];exact zJ
 ·have htk:∀ n∈o.take i,n<8:=fun n hn=>by have:=ho n (List.mem_of_mem_take hn);omega
  have hq:=q8i (t:=t) ht htk;have hbd:=q4t hl (o.take i) (p:=(b,p)) (B:=20000) ⟨hb.1,hb.2⟩ ⟨hp.1,by show p≤22000;omega⟩;have hlt:(o.take i).length≤8:=by rw[yy3];omega
  have hfin:i=o.length→(endP l (b,p) (o.take i)).2=endS l (b,p) o:=fun e=>by rw[e,yxj];rfl
  have hn1:i<o.length→orN t (o.take (i+1))=orN t (o.take i) ||| 2 ^ (o.getD i 0):=fun hlt=>by rw[List.take_succ,yyo hlt,z9 o hlt];exact q3u _ _ _
  have hn2:i<o.length→endP l (b,p) (o.take (i+1))=nx l (endP l (b,p) (o.take i)) (o.getD i 0):=fun hlt=>by rw[List.take_succ,yyo hlt,z9 o hlt];exact q30 _ _ _ _
  generalize orN t (o.take i)=tk at hq hn1 ⊢;generalize endP l (b,p) (o.take i)=q at hbd hn2 hfin ⊢;obtain⟨q1,q2⟩:=q;dsimp only at hbd hfin ⊢;refine zK1 ?_;refine q7 rfl (fun hc=>?_) (fun hc=>?_)
  ·replace hc:=zC hc;have hi':i<o.length:=by omega
   have hn1':=hn1 hi';have hn2':=hn2 hi';have hx:o.getD i 0<l.length:=by rw[z9 o hi'];exact ho _ (yyv hi')
   have eX:(iL o).getD ((i:Int)).toNat (0:Int)=((o.getD i 0:Nat):Int):=q1g o i;generalize o.getD i 0=x at hn1' hn2' hx eX;have h75:=fn94 l pr le tk q1 q2 x hl hx h8 hq (by omega) (by omega);rw[← hn1',← hn2',← eX] at h75
   (repeat (first|refine zs rfl ?_|refine zg rfl rfl rfl ?_|refine zd ?_|refine j6 ?_|refine j5 ?_|refine zlf u5 rfl rfl rfl ?_|refine zdf u5 rfl rfl ?_|refine zc rfl (h75) rfl rfl ?_|refine ze rfl (h75) rfl ?_|refine zk rfl rfl (fun _=>h75) rfl rfl ?_))
   exact⟨i+1,by exact zJ,by omega,by omega⟩
  ·replace hc:=zC hc;refine zK1 ?_;refine⟨.inl rfl,_,_,rfl,trivial,?_⟩;rw[← hfin (by omega)]
structure DelI(x:Int)(xs:List Int)(i j:Nat)(cs:List Int):Prop where
 len:cs.length=xs.length
 le:i≤j
 lt:j≤xs.length
 tk:cs.take i=(xs.take j).filter fun k=>decide (k≠x)
 dr:cs.drop j=xs.drop j
def DelI.get(h:DelI x xs i j cs)(hj:j<xs.length):cs.getD j 0=xs.getD j 0:=by have h1:=congrArg (fun l=>l.getD 0 0) h.dr;simpa[yyj,List.getElem?_drop] using h1
def DelI.ne(h:DelI x xs i j cs)(hj:j<xs.length)(hx:xs.getD j 0≠x):DelI x xs (i+1) (j+1) (cs.set i (cs.getD j 0)):=by
 have hl:=h.len;have hle:=h.le;have e1:cs.set i (cs.getD j 0)=cs.take i++cs.getD j 0::cs.drop (i+1):=by rw[List.set_eq_take_append_cons_drop,if_pos (by omega)]
 have hti:(cs.take i).length=i:=by rw[yy3];omega
 refine⟨by rw[List.length_set];exact hl,by omega,by omega,?_,?_⟩
 ·have e2:(cs.set i (cs.getD j 0)).take (i+1)=cs.take i++[cs.getD j 0]:=by rw[e1,List.take_append,hti,yxt (by omega),show i+1-i=1 by omega];rfl
  have hx':xs[j]≠x:=by rw[← z9 xs hj 0];exact hx
  rw[e2,h.get hj,h.tk,List.take_succ,yyo hj,List.filter_append,z9 xs hj];simp[hx']
 ·rw[e1,List.drop_append,hti,List.drop_of_length_le (by omega),List.nil_append,show j+1-i=(j-i)+1 by omega,List.drop_succ_cons,List.drop_drop,show i+1+(j-i)=j+1 by omega];have:=congrArg (List.drop 1) h.dr;rw[List.drop_drop,List.drop_drop] at this;exact this
def DelI.eq(h:DelI x xs i j cs)(hj:j<xs.length)(hx:xs.getD j 0=x):DelI x xs i (j+1) cs:=by
 have hl:=h.len;refine⟨hl,by have:=h.le;omega,by omega,?_,?_⟩
 ·rw[h.tk,List.take_succ,yyo hj,List.filter_append];have hx':xs[j]=x:=by rw[← z9 xs hj 0];exact hx
  simp[hx']
 ·have:=congrArg (List.drop 1) h.dr;rw[List.drop_drop,List.drop_drop] at this;exact this
def DelI.done(h:DelI x xs i xs.length cs):cs.take i=xs.filter fun k=>decide (k≠x):=by rw[h.tk,yxj]
def z69{p:Int→Bool}:∀ {xs:List Int} {i:Nat},(∃ x∈xs,p x=true)→∃ j,j<xs.length∧idxB p xs i=((i+j:Nat):Int)∧p (xs.getD j 0)=true∧∀ x∈xs.take j,p x=false
 |[],_,h=>by obtain⟨x,hx,_⟩:=h;cases hx
 |y::r,i,h=>by
  by_cases hy:p y=true
  ·exact⟨0,by simp,by rw[idxB,if_pos hy];rfl,hy,fun x hx=>by cases hx⟩
  ·obtain⟨j,h1,h2,h3,h4⟩:=z69 (xs:=r) (i:=i+1) (by
    obtain⟨x,hx,hp⟩:=h;rcases yyk.1 hx with rfl|hx
    ·exact absurd hp hy
    ·exact⟨x,hx,hp⟩)
   refine⟨j+1,by simp;omega,by rw[idxB,if_neg hy,h2];congr 1;omega,h3,fun x hx=>?_⟩;rw[List.take_succ_cons] at hx;rcases yyk.1 hx with rfl|hx
   ·simpa using hy
   ·exact h4 x hx
def z9s(hj:j<xs.length)(hx:xs.getD j 0=x)(hb:∀ y∈xs.take j,decide (y=x)=false):DelI x xs j (j+1) xs:=by
 refine⟨rfl,by omega,by omega,?_,rfl⟩;rw[List.take_succ,yyo hj,List.filter_append];have hx':xs[j]=x:=by rw[← z9 xs hj 0];exact hx
 have e:(xs.take j).filter (fun k=>decide (k≠x))=xs.take j:=List.filter_eq_self.2 fun y hy=>by have:=hb y hy;simpa using this
 rw[e];simp[hx']
def j2u(o:List Nat)(n:Nat):(iL o).filter (fun k=>decide (k≠(n:Int)))=iL (o.filter fun k=>decide (k≠n)):=by unfold iL;rw[List.filter_map];congr 1;refine List.filter_congr fun k _=>?_;refine decide_eq_decide.2 ?_;show(k:Int)≠n↔k≠n;omega
def z3r(row:List Nat)(k:Nat):Sh.freeL (k+1) row=Sh.freeL k row++if k∈row then [] else [k]:=by unfold Sh.freeL;rw[List.range_succ,List.filter_append];congr 1;by_cases h:k∈row<;>simp[h]
set_option maxHeartbeats 4000000 in
def fn95(l:List Sh)(pr le:Int)(row:List Nat)(hl:okD l)(h8:l.length≤8) :
  FnRow Tryz.prog 95 (.acons (vH l pr le) (.acons (vL (iL row)) .anil)) 3 (.int .i64) (iL (ruleF l l.length (Sh.freeL l.length row))):=by
 refine Ox.FnRow.intro (T:=tys) (ET:=ets) (MT:=mts) Tryz.func95 rfl Tryz.call95 (yyc rfl) (fun E M0 up=>?_);refine z5 ?_;refine zK1 ?_;refine JK.ghost 5 3 (.int .i64) rfl ?_
 (refine q9x [0] [1,2,5,17,18] rfl ?_)
 refine JK.loop (fun k:Nat=>⟨[(1,vL (iL row)),(2,ppH l pr le),(5,.lf (.osl 0)),(17,vI l.length),(18,vI (k:Int))],[(0,.sl 3 (.int .i64) (iL (Sh.freeL k row)))],1⟩) (fun k=>k≤l.length) (fun k=>l.length-k) 0 (yy7 _) (by exact zJ) fun k hk=>?_;have hn1:=z3r row k;have hln:=q18 k row;have hl1:(iL (Sh.freeL k row)).length≤8:=by rw[yxy];omega
 have hfin:k=l.length→Sh.freeL k row=Sh.freeL l.length row:=fun e=>by rw[e]
 generalize Sh.freeL k row=o at hn1 hln hl1 hfin ⊢;refine zK1 ?_;refine q7 rfl (fun hc=>?_) (fun hc=>?_)
 ·replace hc:=zC hc;have hk8:k<l.length:=by omega
  (repeat (first|refine zs rfl ?_|refine zg rfl rfl rfl ?_|refine zd ?_|refine j6 ?_|refine j5 ?_|refine zlf u5 rfl rfl rfl ?_|refine zdf u5 rfl rfl ?_|refine zc rfl (fn148 _ _) rfl rfl ?_|refine ze rfl (fn148 _ _) rfl ?_|refine zk rfl rfl (fun _=>fn148 _ _) rfl rfl ?_))
  have hmem:decide ((k:Int)∈iL row)=decide (k∈row):=by
   refine decide_eq_decide.2 ⟨fun h=>?_,fun h=>yy0.2 ⟨k,h,rfl⟩⟩;obtain⟨a,ha,e⟩:=yy0.1 h;have:a=k:=by omega
   rw[← this];exact ha
  refine q7 rfl (fun hd=>?_) (fun hd=>?_)
  ·rw[if_neg (by rw[hmem] at hd;simpa using hd)] at hn1;refine zK1 ?_;refine⟨k+1,?_,by omega,by omega⟩;rw[hn1,q44];exact zJ
  ·rw[if_pos (by rw[hmem] at hd;simpa using hd),yxv] at hn1;refine zK1 ?_;refine⟨k+1,?_,by omega,by omega⟩;rw[hn1];exact zJ
 ·replace hc:=zC hc;have ho:=hfin (by omega);have hnd:=p9 l.length row;have hlt:∀ n∈Sh.freeL l.length row,n<l.length:=fun n hn=>(q0g.1 hn).1;rw[← ho] at hnd hlt ⊢;clear hfin hn1;refine zK1 ?_;refine JK.ghost 10 3 (.int .i64) rfl ?_;have hol:o.length≤8:=by omega
  clear ho hc hl1;refine JK.loop (σ:=Nat×List Nat×List Nat) (fun q=>⟨[(5,.lf (.osl 0)),(9,rkF l pr le),(10,.lf (.osl 1))],[(0,.sl 3 (.int .i64) (iL q.2.1)),(1,.sl 3 (.int .i64) (iL q.2.2))],2⟩)
   (fun q=>q.2.1.length≤q.1∧q.2.1.Nodup∧(∀ n∈q.2.1,n<l.length)∧q.2.2++ruleF l q.1 q.2.1=ruleF l l.length o∧q.2.1.length+q.2.2.length≤8) (fun q=>q.1) (l.length,o,[]) ⟨by dsimp only;omega,hnd,hlt,rfl,by dsimp only[List.length_nil];omega⟩ (by exact zJ) fun q hq=>?_
  obtain⟨f,left,out⟩:=q;obtain⟨i1,i2,i3,i4,i5⟩:=hq;dsimp only at i1 i2 i3 i4 i5 ⊢;have hil:(iL left).length=left.length:=by simp
  have hio:(iL out).length=out.length:=by simp
  refine zK1 ?_;refine q7 rfl (fun hd=>?_) (fun hd=>?_)
  ·replace hd:=zC hd;have hd':0<left.length:=by omega
   cases left with
   |nil=>simp at hd'
   |cons b r=>
   cases f with
   |zero=>simp at i1
   |succ f=>
   have hm:=(q00 (rk l) r b).1;have hp:=r9 i2 hm;have hpl:r.length=((b::r).filter fun k=>decide (k≠leastG (rk l) b r)).length:=by have:=hp.length_eq;rw[List.length_cons,List.length_cons] at this;omega
   have hfl:=j2u (b::r) (leastG (rk l) b r);rw[ruleF] at i4;have hmi:((leastG (rk l) b r:Nat):Int)∈iL (b::r):=yy0.2 ⟨_,hm,rfl⟩;have h78:=fn135r l pr le hl b r i3;have hmlt:=i3 _ hm;generalize leastG (rk l) b r=x at hm hp hpl hfl i4 hmi h78 hmlt;have hi3:∀ n∈(b::r).filter (fun k=>decide (k≠x)),n<l.length:=fun n hn=>i3 n (yxl.1 hn).1;have hi2:=i2.filter (fun k=>decide (k≠x))
   (repeat (first|refine zs rfl ?_|refine zg rfl rfl rfl ?_|refine j6 ?_|refine j5 ?_|refine zlf u5 rfl rfl rfl ?_|refine zdf u5 rfl rfl ?_|refine zc rfl (h78) rfl rfl ?_|refine ze rfl (h78) rfl ?_|refine zk rfl rfl (fun _=>h78) rfl rfl ?_))
   refine q05 xk (Tryz.f95.body.getD .skip) ⟨[(5,.lf (.osl 0)),(9,rkF l pr le),(10,.lf (.osl 1)),(11,.lf (.optr 2 []))],[(0,.sl 3 (.int .i64) (iL (b::r))),(1,.sl 3 (.int .i64) (iL (out++[x]))),(2,.cell (.int .i64) (vI x))],3⟩ rfl 10 rfl ?_ ?_
   ·(refine q9 0 xk rfl rfl (q9 1 xk rfl rfl (q9 2 xk rfl rfl (q9 3 xk rfl rfl (q9 4 xk rfl rfl (q9 5 xk rfl rfl (z8 6 xk rfl rfl (zU 7 xk rfl rfl ?_)))))));(refine q7h xk rfl rfl ?_);refine w8 ?_;refine zU 8 xk rfl rfl ?_;(first|refine q7h xk rfl rfl ?_|refine JL.M0 xk rfl ?_|refine q4n xk rfl rfl ?_);refine w8 ?_;refine q9 9 xk rfl rfl ?_;refine n8 xk StF.nil ?_;((rw[q44];(refine q1i (by conv=>lhs;reduce) ?_ ?_ ?_ ?_ rfl<;>(repeat' (first|exact trivial|exact rfl|refine And.intro ?_ ?_|exact yyc rfl|refine q1x ?_|(refine congrArg (fun z:Int=>some (AV.val (.int .i64) z)) ?_;push_cast;omega)|(show some (HO.sl 3 (.int .i64) _)=some (HO.sl 3 (.int .i64) _);congr 1;rw[Int.toNat_natCast,yxj])))))))
   ·(refine q9x [2] [5,9,10,11] rfl ?_)
    refine zK1 ?_;refine JK.inl [9,10] rfl rfl trivial Tryz.func152 rfl Tryz.call152 (yyc rfl) rfl fun M1 up1=>?_;obtain⟨j0,j1,j2,j3,j4⟩:=z69 (p:=fun k=>decide (k=(x:Int))) (xs:=iL (b::r)) (i:=0) ⟨_,hmi,decide_eq_true rfl⟩;have h91:=fn218 (iL (b::r)) x;rw[j2,yxw] at h91;have hst:=z9s j1 (of_decide_eq_true j3) j4;have hxl:(iL (b::r)).length≤8:=by simp;simp at i5;omega
    generalize iL (b::r)=xs at h91 hst hxl hfl j1 ⊢;clear j2 j3 j4
    (repeat (first|refine zs rfl ?_|refine zg rfl rfl rfl ?_|refine zd ?_|refine j6 ?_|refine j5 ?_|refine zlf u5 rfl rfl rfl ?_|refine zdf u5 rfl rfl ?_|refine zc rfl (h91) rfl rfl ?_|refine ze rfl (h91) rfl ?_|refine zk rfl rfl (fun _=>h91) rfl rfl ?_))
    refine q7 rfl (fun hc=>?_) (fun _=>?_)
    ·replace hc:=zC hc;omega
    ·refine zK1 ?_;refine JK.loop (σ:=Nat×Nat×List Int) (fun q=>⟨[(0,.lf (.osl 0)),(1,.fn 153 .anil (.acons (pI x) .anil)),(5,vI (q.1:Int)),(6,vI (q.2.1:Int))],[(3,.fr 0 [(9,rkF l pr le),(10,.lf (.osl 1))]),(0,.sl 3 (.int .i64) q.2.2),(1,.sl 3 (.int .i64) (iL (out++[x])))],4⟩)
      (fun q=>DelI x xs q.1 q.2.1 q.2.2) (fun q=>xs.length-q.2.1) (j0,j0+1,xs) hst (by exact zJ) fun q hq=>?_
     obtain⟨i,j,cs⟩:=q;dsimp only at hq ⊢;have hql:=hq.len;have hqe:=hq.le;have hqt:=hq.lt;refine zK1 ?_;refine q7 rfl (fun hc=>?_) (fun hc=>?_)
     ·replace hc:=zC hc;have hj:j<xs.length:=by omega
      have hg:=hq.get hj;have h90:=fn153 (cs.getD j 0) x
      (repeat (first|refine zs rfl ?_|refine zg rfl rfl rfl ?_|refine zd ?_|refine j6 ?_|refine j5 ?_|refine zlf u5 rfl rfl rfl ?_|refine zdf u5 rfl rfl ?_|refine zc rfl (h90) rfl rfl ?_|refine ze rfl (h90) rfl ?_|refine zk rfl rfl (fun _=>h90) rfl rfl ?_))
      refine q7 rfl (fun he=>?_) (fun he=>?_)
      ·have hne:xs.getD j 0≠(x:Int):=by rw[← hg];simpa using he
       refine zK1 ?_;exact⟨(i+1,j+1,cs.set i (cs.getD j 0)),by exact zJ,hq.ne hj hne,by dsimp only;omega⟩
      ·have hne:xs.getD j 0=(x:Int):=by rw[← hg];simpa using he
       refine zK1 ?_;exact⟨(i,j+1,cs),by exact zJ,hq.eq hj hne,by dsimp only;omega⟩
     ·replace hc:=zC hc;have hj:j=xs.length:=by omega
      subst hj;have hdn:=hq.done;refine zK1 ?_;refine j5i xk rfl rfl rfl rfl ?_ trivial ?_
      ·show((i:Int)).toNat≤cs.length;omega
      have hti:(cs.take i).length=i:=by rw[yy3];omega
      have hz1:(List.take ((i:Int)).toNat cs++List.replicate (cs.length-((i:Int)).toNat) (Ty.dflt (.int .i64))).length=xs.length:=by rw[Int.toNat_natCast,yyw,hti,List.length_replicate];omega
      have hz2:(List.take ((i:Int)).toNat cs++List.replicate (cs.length-((i:Int)).toNat) (Ty.dflt (.int .i64))).take i=iL ((b::r).filter fun k=>decide (k≠x)):=by rw[← hfl,← hdn,Int.toNat_natCast,yx0 (by omega),yxt (by omega)]
      generalize List.take ((i:Int)).toNat cs++List.replicate (cs.length-((i:Int)).toNat) (Ty.dflt (.int .i64))=ds at hz1 hz2 ⊢;have hi9:i≤ds.length:=by omega
      refine zK1 ?_;refine z1o rfl rfl rfl rfl ?_;refine zK1 ?_;refine⟨(f,(b::r).filter (fun k=>decide (k≠x)),out++[x]),?_,⟨?_,hi2,hi3,?_,?_⟩,yxf _⟩
      ·refine JW.trans (s2:=⟨[(5,.lf (.osl 4)),(9,rkF l pr le),(10,.lf (.osl 1))],[(4,.sl 3 (.int .i64) (iL ((b::r).filter fun k=>decide (k≠x)))),(1,.sl 3 (.int .i64) (iL (out++[x])))],5⟩) (by exact zJ) ?_;rw[← hz2];refine JW.short (d:=5) (m:=0) (hi:=i) rfl rfl hi9 ⟨rfl,rfl,trivial⟩ (fun m o h=>?_) rfl;by_cases e:1=m
       ·subst e;exact h
       ·simp[lk,e] at h
      ·dsimp only;rw[List.length_cons] at i1;omega
      ·dsimp only;rw[yxb];exact i4
      ·dsimp only;rw[yyw,List.length_singleton];rw[List.length_cons] at i5;omega
  ·replace hd:=zC hd;have hz:left.length=0:=by omega
   have:=List.length_eq_zero_iff.1 hz;subst this;have e:ruleF l l.length o=out:=by
    cases f with
    |zero=>rw[← i4];simp[ruleF]
    |succ f=>rw[← i4];simp[ruleF]
   rw[e];refine zK1 ?_;exact⟨.inl rfl,4,1,rfl,rfl,rfl⟩
def prS(l:List Sh):Int:=(l.map fun s:Sh=>s.2.2.1).sum
def ruleL(l:List Sh):List Nat:=ruleF l l.length (Sh.freeL l.length [])
def leS(l:List Sh):Int:=endS l (0,0) (ruleL l)
def prS_snoc(l:List Sh)(s:Sh):prS (l++[s])=prS l+s.2.2.1:=by simp[prS]
def prS_bd:∀ {l:List Sh},okD l→0≤prS l∧prS l≤1000*l.length
 |[],_=>by simp[prS]
 |s::l,h=>by
  have h1:=prS_bd (l:=l) fun x hx=>h x (yyh _ hx);have h2:=h s yyg;unfold okS at h2;have e:prS (s::l)=s.2.2.1+prS l:=by simp[prS]
  rw[e,List.length_cons]
  push_cast
  dsimp only[da,dr,dp] at h2;omega
def q8e(l:List Sh):List.Perm (ruleL l) (Sh.freeL l.length []):=q3s l _ (q18 _ _) (p9 _ _)
def rule_mem:∀ n∈ruleL l,n<l.length:=fun n hn=>(q0g.1 ((q8e l).mem_iff.1 hn)).1
def rule_len(l:List Sh):(ruleL l).length=l.length:=by
 rw[(q8e l).length_eq];have:Sh.freeL l.length []=List.range l.length:=List.filter_eq_self.2 fun n _=>by simp
 rw[this,List.length_range]
def fn92(l:List Sh)(hl:okD l)(h8:l.length≤8):Ox.Fn Tryz.prog 92 (.acons (vD l) .anil) (·=vH l (prS l) (leS l)):=by
 refine Ox.Fn.intro xok Tryz.func92 rfl Tryz.call92 (yyc rfl) (fun E M0 up=>?_);refine z5 ?_;refine zK1 ?_;refine JK.loop (fun i:Nat=>⟨[(0,vD l),(3,.lf (.optr 0 [])),(10,vD l),(11,vI l.length),(12,vI (i:Int))],[(0,.cell shopT (.val shopT ((l,prS (l.take i),()),0,())))],1⟩) (fun i=>i≤l.length) (fun i=>l.length-i) 0 (yy7 _) (by exact zJ) fun i hi=>?_;have hb:=prS_bd (l:=l.take i) fun s hs=>hl s (List.mem_of_mem_take hs);have hs:=z21 hl i;have hlt:(l.take i).length≤8:=by rw[yy3];omega
 have hnx:i<l.length→prS (l.take (i+1))=prS (l.take i)+(l.getD i (0,0,0,())).2.2.1:=fun h=>by rw[List.take_succ,yyo h,z9 l h];exact prS_snoc _ _
 have hfin:i=l.length→prS (l.take i)=prS l:=fun e=>by rw[e,yxj]
 generalize prS (l.take i)=S at hb hnx hfin ⊢;refine zK1 ?_;refine q7 rfl (fun hc=>?_) (fun hc=>?_)
 ·replace hc:=zC hc;refine zK12 ?_;refine q0m (s':=⟨[(0,vD l),(3,.lf (.optr 0 [])),(5,.lf (.optr 1 [])),(10,vD l),(11,vI l.length),(12,vI (i:Int))],[(0,.cell shopT (.val shopT ((l,S,()),0,()))),(1,.cell shT (vS (l.getD i (0,0,0,()))))],2⟩) (by exact zJ) ?_;generalize l.getD i (0,0,0,())=s at hs hnx ⊢;obtain⟨s1,s2,s3,_⟩:=s;dsimp only at hs hnx ⊢;refine q37 xk (Tryz.f92.body.getD .skip) ⟨[(0,vD l),(3,.lf (.optr 0 [])),(10,vD l),(11,vI l.length),(12,vI (i:Int))],[(0,.cell shopT (.val shopT ((l,S+s3,()),0,())))],2⟩ rfl 12 rfl ?_ ?_
  ·(refine q9 0 xk rfl rfl (q9 1 xk rfl rfl (q9 2 xk rfl rfl (q9 3 xk rfl rfl (q9 5 xk rfl rfl (z8 4 xk rfl rfl (z8 6 xk rfl rfl (z8 7 xk rfl rfl (z8 8 xk rfl rfl (z8 9 xk rfl rfl (z8 10 xk rfl rfl (zU 11 xk rfl rfl ?_)))))))))));(first|refine JL.M0 xk rfl ?_);refine w8 ?_;refine n8 xk ?_ ?_;exact zS;(exact zJ))
  ·rw[← hnx (by omega)];refine zK1 ?_;exact⟨i+1,by exact zJ,by omega,by omega⟩
 ·replace hc:=zC hc;rw[hfin (by omega)];have h76:=fn95 l (prS l) 0 [] hl h8;have h74:=fn93 l (prS l) 0 0 0 0 (ruleL l) hl h8 rule_mem (by rw[rule_len];exact h8) (by omega) (by omega) (by omega);refine zK1 ?_;refine z52 rfl h76 rfl trivial ?_
  (repeat (first|refine zs rfl ?_|refine zg rfl rfl rfl ?_|refine zd ?_|refine j6 ?_|refine j5 ?_|refine zlf u5 rfl rfl rfl ?_|refine zdf u5 rfl rfl ?_|refine zc rfl (h74) rfl rfl ?_|refine ze rfl (h74) rfl ?_|refine zk rfl rfl (fun _=>h74) rfl rfl ?_))
  refine⟨.inl rfl,_,_,rfl,trivial,?_⟩;rfl
abbrev vOp(l:List Sh):AV:=.tup (.acons (.val (.ptr shopT) (if dayE l=0 then some ((l,prS l,()),leS l,()) else none)) (.acons (vI (dayE l)) .anil))
def fn51(l:List Sh):Ox.Fn Tryz.prog 51 (.acons (vD l) .anil) (·=vOp l):=by
 refine Ox.Fn.intro xok Tryz.func51 rfl Tryz.call51 (yyc rfl) (fun E M0 up=>?_);refine z5 ?_
 (repeat (first|refine zs rfl ?_|refine zg rfl rfl rfl ?_|refine zd ?_|refine j6 ?_|refine j5 ?_|refine zlf u5 rfl rfl rfl ?_|refine zdf u5 rfl rfl ?_|refine zc rfl (fn91 l) rfl rfl ?_|refine ze rfl (fn91 l) rfl ?_|refine zk rfl rfl (fun _=>fn91 l) rfl rfl ?_))
 refine q7 rfl (fun hc=>?_) (fun hc=>?_)
 ·replace hc:=zC hc;have e:vOp l=.tup (.acons (.val (.ptr shopT) none) (.acons (vI (dayE l)) .anil)):=by unfold vOp;rw[if_neg hc]
  rw[e];refine zK1 ?_;refine⟨.inl rfl,_,_,rfl,trivial,?_⟩;rfl
 ·replace hc:=zC hc;have hc':dayE l=0:=by omega
  obtain⟨h1,h8,hl⟩:=q89 hc';have e:vOp l=.tup (.acons (.val (.ptr shopT) (some ((l,prS l,()),leS l,()))) (.acons (vI 0) .anil)):=by unfold vOp;rw[if_pos hc',hc']
  rw[e]
  (repeat (first|refine zs rfl ?_|refine zg rfl rfl rfl ?_|refine zd ?_|refine j6 ?_|refine j5 ?_|refine zlf u5 rfl rfl rfl ?_|refine zdf u5 rfl rfl ?_|refine zc rfl (fn92 l hl h8) rfl rfl ?_|refine ze rfl (fn92 l hl h8) rfl ?_|refine zk rfl rfl (fun _=>fn92 l hl h8) rfl rfl ?_))
  refine⟨.inl rfl,_,_,rfl,trivial,?_⟩;rfl
variable{P:Nat→Bool}
def j28(hn:n<N)(hr:n∉row)(hp:P n=true)(hb:∀ m,m<n→m∉row→P m=false):(Sh.freeL N row).find? P=some n:=by
 unfold Sh.freeL;rw[List.find?_filter,List.find?_range_eq_some];refine⟨by simp[hr,hp],yys.2 hn,fun m hm=>?_⟩;by_cases h:m∈row
 ·simp[h]
 ·simp[h,hb m hm h]
def q9w(hb:∀ m,m<N→m∉row→P m=false):(Sh.freeL N row).find? P=none:=by rw[List.find?_eq_none];intro m hm;have:=q0g.1 hm;rw[hb m this.1 this.2];simp
def z50(b k:Nat):(b / 2 ^ k) &&& 1=1↔b.testBit k=true:=by rw[Nat.testBit_eq_decide_div_mod_eq,Nat.and_one_is_mod,decide_eq_true_iff]
def q6k(k:Nat):∀ (o:List Nat) (t:Nat),(orN t o).testBit k=(t.testBit k||decide (k∈o))
 |[],t=>by simp[orN]
 |n::o,t=>by
  have e:orN t (n::o)=orN (t ||| 2 ^ n) o:=rfl;rw[e,q6k k o,Nat.testBit_or,Nat.testBit_two_pow];by_cases h:n=k
  ·subst h;simp
  ·have h':¬ k=n:=fun e=>h e.symm;simp[h,h']
def z2w(o:List Nat)(k:Nat):(orN 0 o / 2 ^ k) &&& 1=1↔k∈o:=by rw[z50,q6k];simp
def q5z(t k:Nat):((((t:Int) / 2 ^ ((k:Int)).toNat).toNat &&& ((1:Int)).toNat:Nat):Int)=(((t / 2 ^ k) &&& 1:Nat):Int):=by rw[Int.toNat_natCast,show((t:Int) / 2 ^ k)=((t / 2 ^ k:Nat):Int) by push_cast;rfl,Int.toNat_natCast];rfl
set_option maxHeartbeats 4000000 in
def fn52(l:List Sh)(pr le:Int)(hl:okD l)(h8:l.length≤8):Ox.Fn Tryz.prog 52 (.acons (vH l pr le) .anil) (·=vL (iL (greedy l l.length le l.length [] (0,0)))):=by
 refine Ox.Fn.intro xok Tryz.func52 rfl Tryz.call52 (yyc rfl) (fun E M0 up=>?_);refine z5 ?_;refine zK1 ?_;refine JK.ghost 3 3 (.int .i64) rfl ?_
 (refine q9x [1] [0,3,4,5] rfl ?_)
 refine JK.loop (σ:=Nat×List Nat) (fun q=>⟨[(0,vH l pr le),(3,vL (iL q.2)),(4,.lf (.optr 0 [])),(5,.fn 93 (.acons (vH l pr le) .anil) .anil)],[(0,.cell shT (vP ((orN 0 q.2:Nat),(endP l (0,0) q.2).1,(endP l (0,0) q.2).2,())))],1⟩)
  (fun q=>greedy l l.length le q.1 q.2 (endP l (0,0) q.2)=greedy l l.length le l.length [] (0,0)∧q.2.length+q.1=l.length∧(∀ n∈q.2,n<l.length)∧q.2.Nodup) (fun q=>q.1) (l.length,[]) ⟨rfl,by simp,(fun n hn=>by cases hn),yx2⟩ (by exact zJ) fun q hq=>?_
 obtain⟨f,row⟩:=q;obtain⟨i1,i2,i3,i4⟩:=hq;dsimp only at i1 i2 i3 i4 ⊢;have hir:(iL row).length=row.length:=by simp
 have hbd:=q4t hl row (p:=(0,0)) (B:=0) ⟨by decide,by decide⟩ ⟨by decide,by decide⟩;have hq:=q8i (t:=0) (o:=row) (by omega) fun n hn=>by have:=i3 n hn;omega
 have hbit:=z2w row;have hsn1:=q3u 0 row;have hsn2:=q30 l (0,0) row;generalize orN 0 row=tk at hq hbit hsn1 ⊢;generalize endP l (0,0) row=p at i1 hbd hsn2 ⊢;obtain⟨p1,p2⟩:=p;dsimp only at hbd ⊢;refine zK1 ?_;refine q7 rfl (fun hc=>?_) (fun hc=>?_)
 ·replace hc:=zC hc;cases f with
  |zero=>omega
  |succ f=>
  rw[greedy] at i1;refine zK1 ?_;refine JK.loop (fun n:Nat=>⟨[(0,vH l pr le),(3,vL (iL row)),(4,.lf (.optr 0 [])),(5,.fn 93 (.acons (vH l pr le) .anil) .anil),(26,vI l.length),(27,vI (n:Int))],[(0,.cell shT (vP ((tk:Int),p1,p2,())))],1⟩)
   (fun n=>n≤l.length∧∀ m,m<n→m∉row→decide (endS l (nx l (p1,p2) m) (ruleF l l.length (Sh.freeL l.length (row++[m])))≤le)=false) (fun n=>l.length-n) 0 ⟨yy7 _,fun m hm=>absurd hm (by omega)⟩ (by exact zJ) fun n ⟨hn,hno⟩=>?_
  refine zK1 ?_;refine q7 rfl (fun hd=>?_) (fun hd=>?_)
  ·replace hd:=zC hd;have hn':n<l.length:=by omega
   have hdv:0≤(tk:Int) / 2 ^ n∧(tk:Int) / 2 ^ n≤256:=by
    have e:(tk:Int) / 2 ^ n=((tk / 2 ^ n:Nat):Int):=by push_cast;rfl
    have:=Nat.div_le_self tk (2 ^ n);rw[e];generalize tk / 2 ^ n=z at this ⊢;omega
   have hbt:=q5z tk n;refine zK1 ?_;refine q7 rfl (fun he=>?_) (fun he=>?_)
   ·have he2:=of_decide_eq_true (by rw[← hbt];exact he:decide ((((tk / 2 ^ n) &&& 1:Nat):Int)=1)=true);have hmem:n∈row:=(hbit n).1 (by omega);refine zK1 ?_;refine⟨n+1,by exact zJ,⟨by omega,fun m hm hmr=>?_⟩,by omega⟩;by_cases e:m=n
    ·subst e;exact absurd hmem hmr
    ·exact hno m (by omega) hmr
   ·have he2:=of_decide_eq_false (by rw[← hbt];exact he:decide ((((tk / 2 ^ n) &&& 1:Nat):Int)=1)=false);have hmem:n∉row:=fun h=>he2 (by rw[(hbit n).2 h];rfl);have hnd:(row++[n]).Nodup:=by rw[List.nodup_append];exact⟨i4,by simp,fun a ha b hb e=>hmem (by rw[← yyl.1 hb,← e];exact ha)⟩
    have h75:=fn94 l pr le tk p1 p2 n hl hn' h8 hq (by omega) (by omega);have h76:=fn95 l pr le (row++[n]) hl h8;have hop:=q3s l l.length (q18 l.length (row++[n])) (p9 l.length (row++[n]));have hom:∀ m∈ruleF l l.length (Sh.freeL l.length (row++[n])),m<l.length:=fun m hm=>(q0g.1 (hop.mem_iff.1 hm)).1;have hol:(ruleF l l.length (Sh.freeL l.length (row++[n]))).length≤8:=by rw[hop.length_eq];have:=q18 l.length (row++[n]);omega
    have hxb:=nx_bd hl n (p:=(p1,p2)) (B:=8000) (by dsimp only;omega) (by dsimp only;omega);have htl:tk ||| 2 ^ n<256:=or_lt hq (by omega)
    have hs1:=hsn1 n;have hs2:=hsn2 n;have hno2:∀ m,m<n+1→m∉row→m=n∨decide (endS l (nx l (p1,p2) m) (ruleF l l.length (Sh.freeL l.length (row++[m])))≤le)=false:=fun m hm hr=>by
     by_cases e:m=n
     ·exact .inl e
     ·exact .inr (hno m (by omega) hr)
    have hfind:=fun h=>j28 hn' hmem (P:=fun m=>decide (endS l (nx l (p1,p2) m) (ruleF l l.length (Sh.freeL l.length (row++[m])))≤le)) h hno;generalize hrv:ruleF l l.length (Sh.freeL l.length (row++[n]))=ro at h76 hop hom hol;rw[hrv] at hfind;obtain⟨x1,x2,hxv⟩:∃ x1 x2,nx l (p1,p2) n=(x1,x2):=⟨_,_,rfl⟩;rw[hxv] at h75 hxb hs2 hfind;dsimp only at hxb h75;have h74:=fn93 l pr le (tk ||| 2 ^ n) x1 x2 ro hl h8 hom hol htl (by omega) (by omega);have htk:(List.take (iL row).length (iL row)).length=row.length:=by rw[yxj,hir]
    (repeat (first|refine zs rfl ?_|refine zg rfl rfl rfl ?_|refine j6 ?_|refine j5 ?_|refine zlf u5 rfl rfl rfl ?_|refine zdf u5 rfl rfl ?_|refine zc rfl (h75) rfl rfl ?_|refine ze rfl (h75) rfl ?_|refine zk rfl rfl (fun _=>h75) rfl rfl ?_))
    refine q0m (s':=⟨[(0,vH l pr le),(3,vL (iL row)),(4,.lf (.optr 0 [])),(5,.fn 93 (.acons (vH l pr le) .anil) .anil),(6,vI (n:Int)),(7,.lf (.osl 1)),(8,.lf (.optr 2 [])),(26,vI l.length),(27,vI (n:Int))],
     [(0,.cell shT (vP ((tk:Int),p1,p2,()))),(1,.sl 3 (.int .i64) (iL (row++[n]))),(2,.cell shT (vP (((tk ||| 2 ^ n:Nat):Int),x1,x2,())))],3⟩) ?_ ?_
    ·rw[q44];(refine q1i (by conv=>lhs;reduce) ?_ ?_ ?_ ?_ rfl<;>(repeat' (first|exact trivial|exact rfl|refine And.intro ?_ ?_|exact yyc rfl|refine q1x ?_|(refine congrArg (fun z:Int=>some (AV.val (.int .i64) z)) ?_;push_cast;omega)|(show some (HO.sl 3 (.int .i64) _)=some (HO.sl 3 (.int .i64) _);congr 1;congr 1;rw[Int.toNat_natCast,yxj]))))
    refine q05 xk (lpC Tryz.f52.body) ⟨[(0,vH l pr le),(3,vL (iL row)),(4,.lf (.optr 0 [])),(5,.fn 93 (.acons (vH l pr le) .anil) .anil),(6,vI (n:Int)),(7,.lf (.osl 1)),(8,.lf (.optr 2 [])),(26,vI l.length),(27,vI (n:Int)),(59,vB (decide (endS l (x1,x2) ro≤le)))],
     [(0,.cell shT (vP ((tk:Int),p1,p2,()))),(1,.sl 3 (.int .i64) (iL (row++[n]))),(2,.cell shT (vP (((tk ||| 2 ^ n:Nat):Int),x1,x2,())))],4⟩ rfl 11 rfl ?_ ?_
    ·(refine q9 0 xk rfl rfl (q9 1 xk rfl rfl (q9 2 xk rfl rfl (q9 6 xk rfl rfl (q9 7 xk rfl rfl (q9 8 xk rfl rfl (z8 4 xk rfl rfl (z8 9 xk rfl rfl (zU 3 xk rfl rfl ?_))))))));(first|refine z9j rfl (h74) rfl trivial rfl ?_|(refine z9k rfl (h74) rfl (fun r hr=>?_);subst hr)|(refine JL.CRI rfl h76 rfl ?_ trivial));refine w8 ?_;refine zU 5 xk rfl rfl ?_;(first|refine z9j rfl (h74) rfl trivial rfl ?_|(refine z9k rfl (h74) rfl (fun r hr=>?_);subst hr)|(refine JL.CRI rfl h76 rfl ?_ trivial));refine w8 ?_;refine z8 10 xk rfl rfl ?_;refine n8 xk ?_ ?_;exact zS;(exact zJ))
    refine zK1 ?_;refine q7 rfl (fun hg=>?_) (fun hg=>?_)
    ·rw[hfind hg] at i1;dsimp only at i1;rw[hxv,← hs2] at i1
     (refine q9x [1] [0,4,5,7,8] rfl ?_)
     refine zK12 ?_;refine q05 xk (lpC Tryz.f52.body) ⟨[(0,vH l pr le),(3,vL (iL (row++[n]))),(4,.lf (.optr 0 [])),(5,.fn 93 (.acons (vH l pr le) .anil) .anil)],[(0,.cell shT (vP (((tk ||| 2 ^ n:Nat):Int),x1,x2,())))],4⟩ rfl 4 rfl ?_ ?_
     ·(refine q9 0 xk rfl rfl (q9 2 xk rfl rfl (z8 1 xk rfl rfl (zU 3 xk rfl rfl ?_)));(first|refine JL.M0 xk rfl ?_);refine w8 ?_;refine n8 xk StF.nil ?_;(exact zJ))
     refine zK1 ?_;refine⟨(f,row++[n]),?_,⟨i1,?_,?_,hnd⟩,yxf _⟩
     ·dsimp only;rw[hs1,hs2];exact zJ
     ·dsimp only;rw[yyw,List.length_singleton];omega
     ·intro m hm;rcases yy2.1 hm with hm|hm
      ·exact i3 m hm
      ·rw[yyl.1 hm];exact hn'
    ·refine zK1 ?_;refine⟨n+1,by exact zJ,⟨by omega,fun m hm hmr=>?_⟩,by omega⟩;rcases hno2 m hm hmr with e|e
     ·rw[e,hrv,hxv];exact hg
     ·exact e
  ·replace hd:=zC hd;rw[q9w (fun m hm=>hno m (by omega))] at i1;refine zK1 ?_;refine⟨.inl rfl,_,_,rfl,trivial,?_⟩;rw[← i1]
 ·replace hc:=zC hc;have hf:f=0:=by omega
  subst hf;rw[greedy] at i1;refine zK1 ?_;refine⟨.inl rfl,_,_,rfl,trivial,?_⟩;rw[i1]
def f7(g:Nat→Int)(k:Nat):sm g (List.range (k+1))=sm g (List.range k)+g k:=by rw[List.range_succ,q92];simp[sm]
def tmF(l:List Sh)(p:Int×Int)(n:Nat):Sh:=(p.1+(l.getD n (0,0,0,())).1,Max.max (p.1+(l.getD n (0,0,0,())).1+(l.getD n (0,0,0,())).2.1) p.2,Max.max (p.1+(l.getD n (0,0,0,())).1+(l.getD n (0,0,0,())).2.1) p.2+(l.getD n (0,0,0,())).2.2.1,())
def playF(l:List Sh):Int×Int→List Nat→List Sh
 |_,[]=>[]
 |p,n::o=>tmF l p n::playF l (nx l p n) o
def q6i(l:List Sh)(n:Nat):∀ (o:List Nat) (p:Int×Int),playF l p (o++[n])=playF l p o++[tmF l (endP l p o) n]
 |[],p=>rfl
 |m::o,p=>by rw[List.cons_append,playF,playF,q6i l n o];rfl
def q3c(l:List Sh):∀ (o:List Nat) (p:Int×Int),(playF l p o).length=o.length
 |[],p=>rfl
 |m::o,p=>by rw[playF,List.length_cons,List.length_cons,q3c l o]
def nx_tm(l:List Sh)(p:Int×Int)(n:Nat):nx l p n=((tmF l p n).1,(tmF l p n).2.2.1):=rfl
def m7(o:List α)(h:i<o.length)(d:α):o.take (i+1)=o.take i++[o.getD i d]:=by rw[List.take_succ,yyo h,z9 o h];rfl
def fn80(l:List Sh)(pr le:Int)(o:List Nat)(hl:okD l)(ho:∀ n∈o,n<l.length)(hol:o.length≤1000):Ox.Fn Tryz.prog 80 (.acons (vH l pr le) (.acons (vL (iL o)) .anil)) (·=vD (playF l (0,0) o)):=by
 refine Ox.Fn.intro xok Tryz.func80 rfl Tryz.call80 (yyc rfl) (fun E M0 up=>?_);refine z5 ?_;have hil:(iL o).length=o.length:=by simp
 refine zK0 ?_;refine JK.ghost 5 103 shT rfl ?_;refine JK.loop (σ:=Nat×Int) (fun q=>⟨[(0,vH l pr le),(5,.lf (.osl 1)),(6,.lf (.optr 0 [])),(11,vL (iL o)),(12,vI (iL o).length),(13,vI (q.1:Int))],[(0,.cell shT (vS ((endP l (0,0) (o.take q.1)).1,q.2,(endP l (0,0) (o.take q.1)).2,()))),(1,.sl 103 shT (playF l (0,0) (o.take q.1)))],2⟩)
  (fun q=>q.1≤o.length) (fun q=>o.length-q.1) (0,0) (yy7 _) (by exact zJ) fun q hi=>?_
 obtain⟨i,g⟩:=q;dsimp only at hi ⊢;have hbd:=q4t hl (o.take i) (p:=(0,0)) (B:=0) ⟨by decide,by decide⟩ ⟨by decide,by decide⟩;have hlt:(o.take i).length≤1000:=by rw[yy3];omega
 have hpl:=q3c l (o.take i) (0,0);have hfin:i=o.length→playF l (0,0) (o.take i)=playF l (0,0) o:=fun e=>by rw[e,yxj]
 have hn1:i<o.length→playF l (0,0) (o.take (i+1))=playF l (0,0) (o.take i)++[tmF l (endP l (0,0) (o.take i)) (o.getD i 0)]:=fun h=>by rw[m7 o h 0];exact q6i _ _ _ _
 have hn2:i<o.length→endP l (0,0) (o.take (i+1))=nx l (endP l (0,0) (o.take i)) (o.getD i 0):=fun h=>by rw[m7 o h 0];exact q30 _ _ _ _
 generalize playF l (0,0) (o.take i)=out at hpl hfin hn1 ⊢;generalize endP l (0,0) (o.take i)=p at hbd hn1 hn2 ⊢;obtain⟨p1,p2⟩:=p;dsimp only at hbd ⊢;refine zK0 ?_;refine q7 rfl (fun hc=>?_) (fun hc=>?_)
 ·replace hc:=zC hc;have hi':i<o.length:=by omega
  have hx:o.getD i 0<l.length:=by rw[z9 o hi'];exact ho _ (yyv hi')
  have eI:(iL o).getD i 0=((o.getD i 0:Nat):Int):=q1g o i;have eN:o.getD i 0=((iL o).getD i 0).toNat:=by rw[eI];rfl
  have hn1':=hn1 hi';have hn2':=hn2 hi';have hx2:0≤(iL o).getD i 0∧(iL o).getD i 0<(l.length:Int):=by rw[eI];omega
  rw[nx_tm] at hn2';rw[eN] at hn1' hn2';have hs:=z21 hl ((iL o).getD i 0).toNat;generalize hy:tmF l (p1,p2) ((iL o).getD i 0).toNat=y at hn1' hn2';refine zK0 ?_;refine⟨(i+1,y.2.1),?_,by dsimp only;omega,by dsimp only;omega⟩;dsimp only;rw[hn1',hn2',← hy];exact zJ
 ·replace hc:=zC hc;refine zK0 ?_;refine⟨.inl rfl,_,_,rfl,trivial,?_⟩;rw[hfin (by omega)]
def Ord(N:Nat)(xs:List Int):Prop:=xs.length=N∧(∀ x∈xs,0≤x∧x<(N:Int))∧xs.Nodup
instance (N:Nat)(xs:List Int):Decidable (Ord N xs):=by unfold Ord;infer_instance
def seenR(xs:List Int):List Int:=(List.range 8).map fun k:Nat=>((xs.count (k:Int):Nat):Int)
def q0f(xs:List Int):(seenR xs).length=8:=by simp[seenR]
def q0y(xs:List Int)(hk:k<8):(seenR xs).getD k 0=((xs.count (k:Int):Nat):Int):=by unfold seenR;rw[yyj,List.getElem?_map,List.getElem?_range hk];rfl
def z8d(xs:List Int){x:Nat}(hx:x<8):seenR (xs++[(x:Int)])=(seenR xs).set x ((seenR xs).getD x 0+1):=by
 refine List.ext_getElem (by simp[seenR]) fun n h1 h2=>?_;have hn:n<8:=by rw[q0f] at h1;exact h1
 have e1:=q0y (xs++[(x:Int)]) hn;have e2:=q0y xs hn;rw[z9 _ h1] at e1;rw[z9 _ (by rw[q0f];exact hn)] at e2;rw[e1,List.getElem_set,List.count_append,List.count_singleton];by_cases e:x=n
 ·subst e;rw[if_pos rfl,q0y xs hx];simp
 ·rw[if_neg e,e2];have:¬ (x:Int)=(n:Int):=by omega
  simp[this]
def z47{b:Int}:∀ {xs:List Int},xs≠[]→(maxL xs≤b↔∀ x∈xs,x≤b)
 |[],h=>absurd rfl h
 |y::r,_=>by
  have key:∀ (r:List Int) (y:Int),r.foldl Max.max y≤b↔∀ x∈y::r,x≤b:=by
   intro r;induction r with
   |nil=>intro y;simp
   |cons z r ih=>
    intro y;rw[List.foldl_cons,ih];simp only[List.forall_mem_cons];constructor
    ·rintro⟨h1,h2⟩;exact⟨by omega,by omega,h2⟩
    ·rintro⟨h1,h2,h3⟩;exact⟨by omega,h3⟩
  rw[maxL];exact key r y
def q08{α:Type}[BEq α][LawfulBEq α]:∀ {xs:List α},(∀ a,xs.count a≤1)↔xs.Nodup
 |[]=>by simp
 |x::r=>by
  rw[yxh,← q08];constructor
  ·intro h;refine⟨fun hx=>?_,fun a=>?_⟩
   ·have h1:=h x;rw[List.count_cons_self] at h1;have:=List.count_pos_iff.2 hx;omega
   ·have h1:=h a;rw[List.count_cons] at h1;omega
  ·rintro⟨h1,h2⟩ a;rw[List.count_cons];have:=h2 a;by_cases e:x=a
   ·subst e;rw[List.count_eq_zero.2 h1];simp
   ·have:(x==a)=false:=by simpa using e
    rw[this];simpa using h2 a
def seen_one(hN:N≤8)(hx:∀ x∈xs,0≤x∧x<(N:Int))(h1:1≤xs.length):maxL (seenR xs)=1↔xs.Nodup:=by
 have hne:seenR xs≠[]:=by intro e;have:=congrArg List.length e;rw[q0f] at this;simp at this
 have hc:∀ a,1<xs.count a→∃ k:Nat,k<8∧a=(k:Int):=fun a ha=>by have:=hx a (List.count_pos_iff.1 (by omega));exact⟨a.toNat,by omega,by omega⟩
 have hge:1≤maxL (seenR xs):=by obtain⟨y,r,rfl⟩:=List.exists_cons_of_length_pos (by omega:0<xs.length);have hy:=hx y yyg;have h2:=(z47 (b:=maxL (seenR (y::r))) hne).1 (Int.le_refl _) ((seenR (y::r)).getD y.toNat 0) (by rw[z9 _ (by rw[q0f];omega)];exact yyv _);rw[q0y _ (by omega:y.toNat<8),show((y.toNat:Nat):Int)=y by omega] at h2;have:0<(y::r).count y:=List.count_pos_iff.2 yyg;omega
 rw[← q08];constructor
 ·intro h a;refine Nat.le_of_not_lt fun ha=>?_;obtain⟨k,hk,rfl⟩:=hc a ha;have h2:=(z47 (b:=1) hne).1 (by omega) ((seenR xs).getD k 0) (by rw[z9 _ (by rw[q0f];exact hk)];exact yyv _);rw[q0y _ hk] at h2;omega
 ·intro h;have:maxL (seenR xs)≤1:=(z47 hne).2 fun x hx=>by obtain⟨k,hk,rfl⟩:=yy0.1 hx;have:=h (k:Int);omega
  omega
def fn90(l:List Sh)(pr le:Int)(xs:List Int)(h1:1≤l.length)(h8:l.length≤8):Ox.Fn Tryz.prog 90 (.acons (vH l pr le) (.acons (vL xs) .anil)) (·=vB (decide (Ord l.length xs))):=by
 refine Ox.Fn.intro xok Tryz.func90 rfl Tryz.call90 (yyc rfl) (fun E M0 up=>?_);refine z5 ?_;refine JK.lenOf 1 rfl fun hlen=>?_;replace hlen:xs.length≤9223372036854775807:=hlen.1;refine zK0 ?_;refine JK.loop (fun i:Nat=>⟨[(0,vH l pr le),(1,vL xs),(5,.lf (.optr 0 [])),(9,vL xs),(10,vI xs.length),(11,vI (i:Int))],[(0,.cell (.arr 8 (.int .i64)) (vR (seenR (xs.take i))))],1⟩)
  (fun i=>i≤xs.length∧∀ x∈xs.take i,0≤x∧x<(l.length:Int)) (fun i=>xs.length-i) 0 ⟨yy7 _,fun x hx=>by simp at hx⟩ ?_ fun i ⟨hi,hall⟩=>?_
 ·have e:seenR (xs.take 0)=List.replicate 8 0:=rfl;rw[e];exact zJ
 have hsl:=q0f (xs.take i);have hsn:∀ x:Nat,x<8→i<xs.length→xs.getD i 0=(x:Int)→seenR (xs.take (i+1))=(seenR (xs.take i)).set x ((seenR (xs.take i)).getD x 0+1):=fun x hx hlt e=>by rw[m7 xs hlt 0,e];exact z8d _ hx
 have hbd:∀ x:Nat,x<8→0≤(seenR (xs.take i)).getD x 0∧(seenR (xs.take i)).getD x 0≤(i:Int):=fun x hx=>by rw[q0y _ hx];have:=List.count_le_length (a:=(x:Int)) (l:=xs.take i);rw[yy3] at this;omega
 have hfin:i=xs.length→seenR (xs.take i)=seenR xs:=fun e=>by rw[e,yxj]
 generalize seenR (xs.take i)=R at hsl hsn hbd hfin ⊢;refine zK0 ?_;refine q7 rfl (fun hc=>?_) (fun hc=>?_)
 ·replace hc:=zC hc;have hi':i<xs.length:=by omega
  have eX:xs.getD ((i:Int)).toNat (Ty.dflt (.int .i64))=xs.getD i 0:=rfl;have hmem:xs.getD i 0∈xs:=by rw[z9 xs hi'];exact yyv hi'
  refine zK0 ?_;refine q7 rfl (fun hd=>?_) (fun hd=>?_)
  ·have hd':¬ (0≤xs.getD i 0∧xs.getD i 0<(l.length:Int)):=by
    rintro⟨g1,g2⟩
    revert hd
    rw[show xs.getD ((i:Int)).toNat (Ty.dflt (.int .i64))=xs.getD i 0 from rfl,decide_eq_false (by omega:¬ xs.getD i 0<0)];simp only[cond_false,ge_iff_le,yyu];show ¬ ((l.length:Int)≤_);omega
   refine zK0 ?_;refine⟨.inl rfl,_,_,rfl,trivial,?_⟩;have:¬ Ord l.length xs:=fun h=>hd' (h.2.1 _ hmem);rw[decide_eq_false this]
  ·have hd':0≤xs.getD i 0∧xs.getD i 0<(l.length:Int):=by
    revert hd
    rw[show xs.getD ((i:Int)).toNat (Ty.dflt (.int .i64))=xs.getD i 0 from rfl];by_cases h0:xs.getD i 0<0
    ·rw[decide_eq_true h0];intro h;cases h
    ·rw[decide_eq_false h0];simp only[cond_false,ge_iff_le,decide_eq_false_iff_not];intro h;exact⟨by omega,by exact Int.not_le.1 h⟩
   obtain⟨x,hx⟩:∃ x:Nat,xs.getD i 0=(x:Int):=⟨(xs.getD i 0).toNat,by omega⟩;have hsn':=hsn (xs.getD i 0).toNat (by omega) hi' (by omega);have hb':=hbd (xs.getD i 0).toNat (by omega);refine zK0 ?_;refine⟨i+1,?_,⟨by omega,fun y hy=>?_⟩,by omega⟩
   ·rw[hsn'];exact zJ
   ·rw[m7 xs hi' 0] at hy;rcases yy2.1 hy with hy|hy
    ·exact hall y hy
    ·rw[yyl.1 hy];exact hd'
 ·replace hc:=zC hc;have he:i=xs.length:=by omega
  rw[hfin he];rw[he,yxj] at hall;have h83:=fn145 (seenR xs) (by rw[q0f];omega)
  (refine q9x [0] [0,1,5] rfl ?_)
  by_cases hl:xs.length=l.length
  ·have hso:=seen_one (N:=l.length) h8 hall (by omega)
   (repeat (first|refine zt rfl (by simp[wantB,hl]) ?_|refine j5e xk rfl rfl (by simp[maxLen]) rfl trivial ?_|refine zc rfl h83 rfl rfl ?_|refine zs rfl ?_|refine j5 ?_))
   refine⟨.inl rfl,_,_,rfl,trivial,?_⟩;refine congrArg vB ?_;rw[hl];have e:decide (Ord l.length xs)=decide (maxL (seenR xs)=1):=decide_eq_decide.2 ⟨fun h=>hso.2 h.2.2,fun h=>⟨hl,hall,hso.1 h⟩⟩;rw[e];simp;rfl
  ·(repeat (first|refine zfl rfl (by simp[wantB];omega) rfl ?_|refine zs rfl ?_|refine z78 rfl (by simp;omega) rfl rfl trivial trivial ?_|refine j5 ?_))
   refine⟨.inl rfl,_,_,rfl,trivial,?_⟩;have e:decide (Ord l.length xs)=false:=decide_eq_false fun h=>hl h.1;rw[e]
abbrev natL(xs:List Int):List Nat:=xs.map Int.toNat
def j2t(h:∀ x∈xs,0≤x):iL (natL xs)=xs:=by
 unfold iL natL;rw[List.map_map]
 conv=>rhs;rw[← List.map_id xs]
 refine List.map_congr_left fun x hx=>?_;have:=h x hx;show((x.toNat:Nat):Int)=x;omega
def nat_iL(o:List Nat):natL (iL o)=o:=by simp[Function.comp_def]
def Ord.iL{N:Nat}{xs:List Int}(h:Ord N xs):Go.Proofs.YtjmhhehhfeengaaGreatDoor.Pr.iL (natL xs)=xs:=j2t fun x hx=>(h.2.1 x hx).1
def Ord.lt(h:Ord N xs):∀ n∈natL xs,n<N:=fun n hn=>by obtain⟨x,hx,rfl⟩:=yy0.1 hn;have:=h.2.1 x hx;omega
def Ord.len(h:Ord N xs):(natL xs).length=N:=by rw[yxy];exact h.1
def ord_of(h1:o.length=N)(h2:∀ n∈o,n<N)(h3:o.Nodup):Ord N (iL o):=by
 refine⟨by rw[yxy];exact h1,fun x hx=>?_,?_⟩
 ·obtain⟨n,hn,rfl⟩:=yy0.1 hx;have:=h2 n hn;omega
 ·unfold iL List.Nodup;rw[List.pairwise_map];exact h3.imp fun h e=>h (Int.ofNat.inj e)
def playE(l:List Sh)(xs:List Int):Int:=if dayE l≠0 then dayE l else if Ord l.length xs then 0 else 15
def play_ok:playE l xs=0↔dayE l=0∧Ord l.length xs:=by
 unfold playE;split
 ·rename_i h;exact⟨fun h'=>absurd h' h,fun h'=>absurd h'.1 h⟩
 ·rename_i h;split
  ·rename_i h';exact⟨fun _=>⟨by omega,h'⟩,fun _=>rfl⟩
  ·rename_i h';exact⟨fun e=>by omega,fun e=>absurd e.2 h'⟩
abbrev vPl(l:List Sh)(xs:List Int):AV:=.tup (.acons (.val (.ptr shopT) (if playE l xs=0 then some ((l,prS l,()),leS l,()) else none)) (.acons (vD (if playE l xs=0 then playF l (0,0) (natL xs) else [])) (.acons (vI (playE l xs)) .anil)))
def fn50(l:List Sh)(xs:List Int):Ox.Fn Tryz.prog 50 (.acons (vD l) (.acons (vL xs) .anil)) (·=vPl l xs):=by
 refine Ox.Fn.intro xok Tryz.func50 rfl Tryz.call50 (yyc rfl) (fun E M0 up=>?_);refine z5 ?_;have h55:=fn51 l;unfold vOp at h55;by_cases hc:dayE l=0
 ·obtain⟨d1,d8,dl⟩:=q89 hc;rw[if_pos hc,hc] at h55
  (repeat (first|refine zs rfl ?_|refine zg rfl rfl rfl ?_|refine zd ?_|refine j6 ?_|refine j5 ?_|refine zc rfl (h55) rfl rfl ?_|refine ze rfl (h55) rfl ?_|refine zk rfl rfl (fun _=>h55) rfl rfl ?_|refine zc rfl (fn90 l (prS l) (leS l) xs d1 d8) rfl rfl ?_|refine ze rfl (fn90 l (prS l) (leS l) xs d1 d8) rfl ?_|refine zk rfl rfl (fun _=>fn90 l (prS l) (leS l) xs d1 d8) rfl rfl ?_))
  refine q7 rfl (fun h=>absurd h (by decide)) (fun _=>?_)
  (repeat (first|refine zs rfl ?_|refine zg rfl rfl rfl ?_|refine zd ?_|refine j6 ?_|refine j5 ?_|refine zc rfl (fn90 l (prS l) (leS l) xs d1 d8) rfl rfl ?_|refine ze rfl (fn90 l (prS l) (leS l) xs d1 d8) rfl ?_|refine zk rfl rfl (fun _=>fn90 l (prS l) (leS l) xs d1 d8) rfl rfl ?_))
  refine q7 rfl (fun hd=>?_) (fun hd=>?_)
  ·have hp:playE l xs=15:=by unfold playE;rw[if_neg (by omega),if_neg (by simpa using hd)]
   have e:vPl l xs=.tup (.acons (.val (.ptr shopT) none) (.acons (vD []) (.acons (vI 15) .anil))):=by unfold vPl;rw[hp];rfl
   rw[e];refine zK0 ?_;refine⟨.inl rfl,_,_,rfl,trivial,?_⟩;rfl
  ·have ho:Ord l.length xs:=by simpa using hd
   have hp:playE l xs=0:=play_ok.2 ⟨hc,ho⟩;have e:vPl l xs=.tup (.acons (.val (.ptr shopT) (some ((l,prS l,()),leS l,()))) (.acons (vD (playF l (0,0) (natL xs))) (.acons (vI 0) .anil))):=by unfold vPl;rw[hp];rfl
   rw[e];have h65:=fn80 l (prS l) (leS l) (natL xs) dl ho.lt (by rw[ho.len];omega);rw[ho.iL] at h65
   (repeat (first|refine zs rfl ?_|refine zg rfl rfl rfl ?_|refine zd ?_|refine j6 ?_|refine j5 ?_|refine zc rfl (h65) rfl rfl ?_|refine ze rfl (h65) rfl ?_|refine zk rfl rfl (fun _=>h65) rfl rfl ?_))
   refine⟨.inl rfl,_,_,rfl,trivial,?_⟩;rfl
 ·rw[if_neg hc] at h55;have hp:playE l xs=dayE l:=by unfold playE;rw[if_pos hc]
  have e:vPl l xs=.tup (.acons (.val (.ptr shopT) none) (.acons (vD []) (.acons (vI (dayE l)) .anil))):=by unfold vPl;rw[hp,if_neg hc,if_neg hc]
  rw[e];generalize dayE l=z at hc h55 ⊢;refine zK13 ?_;refine q7 rfl (fun _=>?_) (fun h=>?_)
  ·refine zK0 ?_;refine⟨.inl rfl,_,_,rfl,trivial,?_⟩;rfl
  ·replace h:=zC h;omega
def fn96(l:List Sh)(xs:List Int):Ox.Fn Tryz.prog 96 (.acons (vD l) (.acons (vL xs) .anil)) (·=vB (decide (Ord l.length xs))):=by
 refine Ox.Fn.intro xok Tryz.func96 rfl Tryz.call96 (yyc rfl) (fun E M0 up=>?_);refine z5 ?_;refine JK.lenOf 1 rfl fun hlen=>?_;replace hlen:xs.length≤9223372036854775807:=hlen.1;refine JK.lenOf 0 rfl fun hlen2=>?_;replace hlen2:l.length≤9223372036854775807:=hlen2.1;refine zK0 ?_;refine q7 rfl (fun hc=>?_) (fun hc=>?_)
 ·replace hc:=zC hc;refine zK0 ?_;refine⟨.inl rfl,_,_,rfl,trivial,?_⟩;rw[decide_eq_false (fun h:Ord l.length xs=>by have:=h.1;omega)]
 ·replace hc:=zC hc;refine zK0 ?_;refine JK.loop (fun i:Nat=>⟨[(0,vD l),(1,vL xs),(5,vI (i:Int))],[],0⟩) (fun i=>i≤xs.length∧(∀ x∈xs.take i,0≤x∧x<(l.length:Int))∧(xs.take i).Nodup) (fun i=>xs.length-i) 0 ⟨yy7 _,fun x hx=>by simp at hx,by simp⟩ (by exact zJ) fun i ⟨hi,hall,hnd⟩=>?_;refine zK0 ?_;refine q7 rfl (fun hd=>?_) (fun hd=>?_)
  ·replace hd:=zC hd;have hi':i<xs.length:=by omega
   have hmem:xs.getD i 0∈xs:=by rw[z9 xs hi'];exact yyv hi'
   refine zK0 ?_;refine q7 rfl (fun he=>?_) (fun he=>?_)
   ·have hd':¬ (0≤xs.getD i 0∧xs.getD i 0<(l.length:Int)):=by
     rintro⟨g1,g2⟩
     revert he
     rw[show xs.getD ((i:Int)).toNat (Ty.dflt (.int .i64))=xs.getD i 0 from rfl,decide_eq_false (by omega:¬ xs.getD i 0<0)];simp only[cond_false,ge_iff_le,yyu];show ¬ ((l.length:Int)≤_);omega
    refine zK0 ?_;refine⟨.inl rfl,_,_,rfl,trivial,?_⟩;have:¬ Ord l.length xs:=fun h=>hd' (h.2.1 _ hmem);rw[decide_eq_false this]
   ·have hd':0≤xs.getD i 0∧xs.getD i 0<(l.length:Int):=by
     revert he
     rw[show xs.getD ((i:Int)).toNat (Ty.dflt (.int .i64))=xs.getD i 0 from rfl];by_cases h0:xs.getD i 0<0
     ·rw[decide_eq_true h0];intro h;cases h
     ·rw[decide_eq_false h0];simp only[cond_false,ge_iff_le,decide_eq_false_iff_not];intro h;exact⟨by omega,by exact Int.not_le.1 h⟩
    refine zK0 ?_;refine JK.loop (fun j:Nat=>⟨[(0,vD l),(1,vL xs),(5,vI (i:Int)),(6,vI (j:Int))],[],0⟩) (fun j=>j≤i∧xs.getD i 0∉xs.take j) (fun j=>i-j) 0 ⟨yy7 _,by simp⟩ (by exact zJ) fun j ⟨hj,hno⟩=>?_;refine zK0 ?_;refine q7 rfl (fun hf=>?_) (fun hf=>?_)
    ·replace hf:=zC hf;have hj':j<xs.length:=by omega
     refine zK0 ?_;refine q7 rfl (fun hg=>?_) (fun hg=>?_)
     ·replace hg:=zC hg;have hg':xs.getD j 0=xs.getD i 0:=hg;refine zK0 ?_;refine⟨.inl rfl,_,_,rfl,trivial,?_⟩;have:¬ Ord l.length xs:=fun h=>by rw[z9 xs hj',z9 xs hi'] at hg';have:=yx9.1 h.2.2 j i hj' hi' (by omega);exact this hg'
      rw[decide_eq_false this]
     ·replace hg:=zC hg;have hg':xs.getD j 0≠xs.getD i 0:=hg;refine zK0 ?_;refine⟨j+1,by exact zJ,⟨by omega,?_⟩,by omega⟩;rw[m7 xs hj' 0,yy2,yyl];rintro(h|h)
      ·exact hno h
      ·exact hg' h.symm
    ·replace hf:=zC hf;have:j=i:=by omega
     subst this;refine zK0 ?_;refine⟨j+1,by exact zJ,⟨by omega,?_,?_⟩,by omega⟩
     ·intro y hy;rw[m7 xs hi' 0] at hy;rcases yy2.1 hy with hy|hy
      ·exact hall y hy
      ·rw[yyl.1 hy];exact hd'
     ·rw[m7 xs hi' 0,List.nodup_append];refine⟨hnd,by simp,fun a ha b hb e=>?_⟩;rw[yyl.1 hb] at e;rw[e] at ha;exact hno ha
  ·replace hd:=zC hd;have he:i=xs.length:=by omega
   rw[he,yxj] at hall hnd;refine zK0 ?_;refine⟨.inl rfl,_,_,rfl,trivial,?_⟩;have ho:Ord l.length xs:=⟨by omega,hall,hnd⟩;rw[decide_eq_true ho]
def fn53(l:List Sh)(xs:List Int):Ox.Fn Tryz.prog 53 (.acons (vD l) (.acons (vL xs) .anil)) (·=vI (playE l xs)):=by
 refine Ox.Fn.intro xok Tryz.func53 rfl Tryz.call53 (yyc rfl) (fun E M0 up=>?_);refine z5 ?_;refine zK23 ?_;refine q7 rfl (fun hc=>?_) (fun hc=>?_)
 ·replace hc:=zC hc;refine zK23 ?_;refine⟨.inl rfl,_,_,rfl,trivial,?_⟩;unfold playE;rw[if_pos hc]
 ·replace hc:=zC hc
  (repeat (first|refine zs rfl ?_|refine zg rfl rfl rfl ?_|refine zd ?_|refine j6 ?_|refine j5 ?_|refine zc rfl (fn96 l xs) rfl rfl ?_|refine ze rfl (fn96 l xs) rfl ?_|refine zk rfl rfl (fun _=>fn96 l xs) rfl rfl ?_))
  refine q7 rfl (fun hd=>?_) (fun hd=>?_)
  ·refine zK0 ?_;refine⟨.inl rfl,_,_,rfl,trivial,?_⟩;unfold playE;rw[if_neg (by omega),if_neg (by simpa using hd)]
  ·refine zK0 ?_;refine⟨.inl rfl,_,_,rfl,trivial,?_⟩;unfold playE;rw[if_neg (by omega),if_pos (by simpa using hd)]
abbrev lvL(t:List Sh):List Int:=t.map fun s:Sh=>s.1
abbrev gsL(t:List Sh):List Int:=t.map fun s:Sh=>s.2.1
abbrev otL(t:List Sh):List Int:=t.map fun s:Sh=>s.2.2.1
def fn97(l:List Sh)(o:List Nat)(hl:okD l)(ho:∀ n∈o,n<l.length)(hol:o.length≤1000) :
  Ox.Fn Tryz.prog 97 (.acons (vD l) (.acons (vL (iL o)) .anil)) (·=.tup (.acons (vL (lvL (playF l (0,0) o))) (.acons (vL (gsL (playF l (0,0) o))) (.acons (vL (otL (playF l (0,0) o))) .anil)))):=by
 refine Ox.Fn.intro xok Tryz.func97 rfl Tryz.call97 (yyc rfl) (fun E M0 up=>?_);refine z5 ?_;have hil:(iL o).length=o.length:=by simp
 refine zK0 ?_;refine JK.ghost 7 2 (.int .i64) rfl ?_;refine JK.ghost 8 2 (.int .i64) rfl ?_;refine JK.ghost 9 2 (.int .i64) rfl ?_;refine JK.loop (fun i:Nat=>⟨[(0,vD l),(1,vL (iL o)),(7,.lf (.osl 0)),(8,.lf (.osl 1)),(9,.lf (.osl 2)),(10,vI (endP l (0,0) (o.take i)).1),(11,vI (endP l (0,0) (o.take i)).2),(12,vI (i:Int))],
   [(0,.sl 2 (.int .i64) (lvL (playF l (0,0) (o.take i)))),(1,.sl 2 (.int .i64) (gsL (playF l (0,0) (o.take i)))),(2,.sl 2 (.int .i64) (otL (playF l (0,0) (o.take i))))],3⟩)
  (fun i=>i≤o.length) (fun i=>o.length-i) 0 (yy7 _) (by exact zJ) fun i hi=>?_
 have hbd:=q4t hl (o.take i) (p:=(0,0)) (B:=0) ⟨by decide,by decide⟩ ⟨by decide,by decide⟩;have hlt:(o.take i).length≤1000:=by rw[yy3];omega
 have hpl:=q3c l (o.take i) (0,0);have hfin:i=o.length→playF l (0,0) (o.take i)=playF l (0,0) o:=fun e=>by rw[e,yxj]
 have hn1:i<o.length→playF l (0,0) (o.take (i+1))=playF l (0,0) (o.take i)++[tmF l (endP l (0,0) (o.take i)) (o.getD i 0)]:=fun h=>by rw[m7 o h 0];exact q6i _ _ _ _
 have hn2:i<o.length→endP l (0,0) (o.take (i+1))=nx l (endP l (0,0) (o.take i)) (o.getD i 0):=fun h=>by rw[m7 o h 0];exact q30 _ _ _ _
 generalize playF l (0,0) (o.take i)=out at hpl hfin hn1 ⊢;generalize endP l (0,0) (o.take i)=p at hbd hn1 hn2 ⊢;obtain⟨p1,p2⟩:=p;dsimp only at hbd ⊢;have hl1:(lvL out).length≤1000:=by simp;omega
 have hl2:(gsL out).length≤1000:=by simp;omega
 have hl3:(otL out).length≤1000:=by simp;omega
 refine zK0 ?_;refine q7 rfl (fun hc=>?_) (fun hc=>?_)
 ·replace hc:=zC hc;have hi':i<o.length:=by omega
  have hx:o.getD i 0<l.length:=by rw[z9 o hi'];exact ho _ (yyv hi')
  have eI:(iL o).getD i 0=((o.getD i 0:Nat):Int):=q1g o i;have eN:o.getD i 0=((iL o).getD i 0).toNat:=by rw[eI];rfl
  have hn1':=hn1 hi';have hn2':=hn2 hi';have hx2:0≤(iL o).getD i 0∧(iL o).getD i 0<(l.length:Int):=by rw[eI];omega
  rw[nx_tm] at hn2';rw[eN] at hn1' hn2';have hs:=z21 hl ((iL o).getD i 0).toNat;generalize hy:tmF l (p1,p2) ((iL o).getD i 0).toNat=y at hn1' hn2';have m1:lvL (out++[y])=lvL out++[y.1]:=by simp
  have m2:gsL (out++[y])=gsL out++[y.2.1]:=by simp
  have m3:otL (out++[y])=otL out++[y.2.2.1]:=by simp
  refine zK0 ?_;refine⟨i+1,?_,by omega,by omega⟩;dsimp only;rw[hn1',hn2',m1,m2,m3,← hy];exact zJ
 ·replace hc:=zC hc;rw[hfin (by omega)] at *;refine zK0 ?_;refine⟨.inl rfl,_,_,rfl,trivial,?_⟩;rfl
def z6r(l:List Sh):∀ {o:List Nat} (p:Int×Int),o≠[]→(otL (playF l p o)).getD (o.length-1) 0=endS l p o
 |[],_,h=>absurd rfl h
 |[n],p,_=>rfl
 |n::m::o,p,_=>by have:=z6r l (o:=m::o) (nx l p n) (by simp);rw[q5v,← this];rfl
def fn54(l:List Sh)(o:List Nat)(hl:okD l)(ho:∀ n∈o,n<l.length)(hol:o.length≤1000)(hne:o≠[]):Ox.Fn Tryz.prog 54 (.acons (vD l) (.acons (vL (iL o)) .anil)) (·=vI (endS l (0,0) o)):=by
 refine Ox.Fn.intro xok Tryz.func54 rfl Tryz.call54 (yyc rfl) (fun E M0 up=>?_);refine z5 ?_;have h49:=fn97 l o hl ho hol;have hlast:=z6r l (0,0) hne;have hlen:(otL (playF l (0,0) o)).length=o.length:=by rw[yxy,q3c]
 have hpos:=List.length_pos_iff.2 hne;generalize otL (playF l (0,0) o)=outs at h49 hlast hlen;rw[← hlen] at hlast
 (repeat (first|refine zs rfl ?_|refine zg rfl rfl rfl ?_|refine zd ?_|refine j6 ?_|refine j5 ?_|refine zc rfl (h49) rfl rfl ?_|refine ze rfl (h49) rfl ?_|refine zk rfl rfl (fun _=>h49) rfl rfl ?_))
 refine⟨.inl rfl,_,_,rfl,trivial,?_⟩;rw[← hlast];refine congrArg vI ?_;show outs.getD ((outs.length:Int)-1).toNat 0=_;rw[show((outs.length:Int)-1).toNat=outs.length-1 by omega]
abbrev vTL(a:List Int)(b:Int):AV:=.tup (.acons (vL a) (.acons (vI b) .anil))
def endR(l:List Sh)(xs:List Int):Int:=if playE l xs=0 then endS l (0,0) (natL xs) else 0
def fn25(l:List Sh)(xs:List Int):Ox.Fn Tryz.prog 25 (.acons (vD l) (.acons (vL xs) .anil)) (·=vT2 (endR l xs) (playE l xs)):=by
 refine Ox.Fn.intro xok Tryz.func25 rfl Tryz.call25 (yyc rfl) (fun E M0 up=>?_);refine z5 ?_;refine zK24 ?_;refine q7 rfl (fun hc=>?_) (fun hc=>?_)
 ·replace hc:=zC hc;refine zK24 ?_;refine⟨.inl rfl,_,_,rfl,trivial,?_⟩;unfold endR;rw[if_neg hc]
 ·replace hc:=zC hc;have hz:playE l xs=0:=by omega
  obtain⟨d,ho⟩:=play_ok.1 hz;obtain⟨d1,d8,dl⟩:=q89 d;have h50:=fn54 l (natL xs) dl ho.lt (by rw[ho.len];omega) (fun e=>by have:=ho.len;rw[e] at this;simp at this;omega);rw[ho.iL] at h50
  (repeat (first|refine zs rfl ?_|refine zg rfl rfl rfl ?_|refine zd ?_|refine j6 ?_|refine j5 ?_|refine zc rfl (h50) rfl rfl ?_|refine ze rfl (h50) rfl ?_|refine zk rfl rfl (fun _=>h50) rfl rfl ?_))
  refine⟨.inl rfl,_,_,rfl,trivial,?_⟩;unfold endR;rw[if_pos hz,hz]
def z0b(l:List Sh):∀ {o:List Nat} (p:Int×Int),o≠[]→((playF l p o).getD (o.length-1) (0,0,0,())).2.2.1=endS l p o
 |[],_,h=>absurd rfl h
 |[n],p,_=>rfl
 |n::m::o,p,_=>by have:=z0b l (o:=m::o) (nx l p n) (by simp);rw[q5v,← this];rfl
def fn22(l:List Sh)(xs:List Int):Ox.Fn Tryz.prog 22 (.acons (vD l) (.acons (vL xs) .anil)) (·=vT2 (endR l xs) (playE l xs)):=by
 refine Ox.Fn.intro xok Tryz.func22 rfl Tryz.call22 (yyc rfl) (fun E M0 up=>?_);refine z5 ?_;have h47:=fn50 l xs;unfold vPl at h47;by_cases hz:playE l xs=0
 ·rw[if_pos hz,if_pos hz,hz] at h47;have e:endR l xs=endS l (0,0) (natL xs):=by unfold endR;rw[if_pos hz]
  rw[e,hz];obtain⟨d,ho⟩:=play_ok.1 hz;obtain⟨d1,d8,dl⟩:=q89 d;have hlen:=q3c l (natL xs) (0,0);have hla:=z0b l (o:=natL xs) (0,0) (fun e=>by have:=ho.len;rw[e] at this;simp at this;omega);rw[ho.len] at hlen hla;generalize playF l (0,0) (natL xs)=t at h47 hlen hla ⊢;refine zK25 ?_;refine q7 rfl (fun h=>absurd h (by decide)) (fun _=>?_);refine zK0 ?_;refine⟨.inl rfl,_,_,rfl,trivial,?_⟩;rw[← hla,← hlen];have e2:((t.length:Int)-1).toNat=t.length-1:=by omega
  show vT2 (t.getD ((t.length:Int)-1).toNat (0,0,0,())).2.2.1 0=_;rw[e2]
 ·rw[if_neg hz,if_neg hz] at h47;have e:endR l xs=0:=by unfold endR;rw[if_neg hz]
  rw[e];generalize playE l xs=z at hz h47 ⊢;refine zK25 ?_;refine q7 rfl (fun _=>?_) (fun h=>?_)
  ·refine zK0 ?_;refine⟨.inl rfl,_,_,rfl,trivial,?_⟩;rfl
  ·replace h:=zC h;omega
abbrev T0:Sh:=(0,0,0,())
end Go.Proofs.YtjmhhehhfeengaaGreatDoor.Pr
namespace Go.Proofs.YtjmhhehhfeengaaGreatDoor.Pr
open Go Go.RowKit Ox Ox.Sh
abbrev allL(l:List Sh):List (List Nat):=lvl l.length l.length
def z1u(N:Nat):Sh.freeL N []=List.range N:=List.filter_eq_self.2 fun n _=>by simp
def mem_lvl:o∈lvl N N↔o.length=N∧o.Nodup∧∀ x∈o,x<N:=by
 rw[z5c,q3x];constructor
 ·rintro⟨z,rfl,h1,h2,h3⟩;exact⟨h1,h2,fun x hx=>(h3 x hx).1⟩
 ·rintro⟨h1,h2,h3⟩;exact⟨o,rfl,h1,h2,fun x hx=>⟨h3 x hx,by simp⟩⟩
def lvl_perm(h:o∈lvl N N):List.Perm o (List.range N):=by obtain⟨h1,h2,h3⟩:=mem_lvl.1 h;exact q5j h2 List.nodup_range (fun x hx=>yys.2 (h3 x hx)) (by rw[List.length_range];omega)
def lvl_of_perm(h:List.Perm o (List.range N)):o∈lvl N N:=mem_lvl.2 ⟨by rw[h.length_eq,List.length_range],h.nodup_iff.2 List.nodup_range,fun x hx=>yys.1 (h.mem_iff.1 hx)⟩
def rule_in(l:List Sh):ruleL l∈allL l:=by have:=q8e l;rw[z1u] at this;exact lvl_of_perm this
variable{l:List Sh}
def le_all(hl:okD l)(h:o∈allL l):leS l≤endS l (0,0) o:=by have:=lvl_perm h;rw[← z1u] at this;exact q8f hl l.length (0,0) (q18 _ _) (p9 _ _) this
def bestsL(l:List Sh):List (List Nat):=(allL l).filter fun o=>decide (endS l (0,0) o=leS l)
def mem_bests:o∈bestsL l↔o∈allL l∧endS l (0,0) o=leS l:=by unfold bestsL;rw[yxl,yyu]
def z8h(l:List Sh):ruleL l∈bestsL l:=mem_bests.2 ⟨rule_in l,rfl⟩
def bests_ne(l:List Sh):bestsL l≠[]:=fun e=>by have:=z8h l;rw[e] at this;cases this
def bestO(l:List Sh):List Nat:=greedy l l.length (leS l) l.length [] (0,0)
def z9d(hl:okD l):∃ r,bestsL l=bestO l::r:=by
 have h:=q69 hl (N:=l.length) (least:=leS l) l.length [] (by rw[z1u,List.length_range]) ⟨ruleL l,by rw[← z5c];exact rule_in l,Int.le_refl _⟩;rw[← z5c] at h;have e:∀ L:List (List Nat),(∀ o∈L,leS l≤endS l (0,0) o)→∀ b,L.find? (fun o=>decide (endS l (0,0) o≤leS l))=some b→∃ r,L.filter (fun o=>decide (endS l (0,0) o=leS l))=b::r:=by
  intro L;induction L with
  |nil=>intro _ b h;cases h
  |cons o L ih=>
   intro ha b hb;have h0:=ha o yyg;by_cases hc:endS l (0,0) o≤leS l
   ·rw[List.find?_cons_of_pos (by exact decide_eq_true hc)] at hb;rw[List.filter_cons_of_pos (by exact decide_eq_true (by omega:endS l (0,0) o=leS l))];cases hb;exact⟨_,rfl⟩
   ·rw[List.find?_cons_of_neg (by simpa using hc)] at hb;rw[yx7 (by simp;omega)];exact ih (fun o ho=>ha o (yyh _ ho)) b hb
 exact e _ (fun o ho=>le_all hl ho) _ h
def best_in(hl:okD l):bestO l∈bestsL l:=by obtain⟨r,h⟩:=z9d hl;rw[h];exact yyg
def le_pos(hl:okD l):0≤leS l:=(q4t hl (ruleL l) (p:=(0,0)) (B:=0) ⟨by decide,by decide⟩ ⟨by decide,by decide⟩).2.1
def befB(a b:Nat):List Nat→Bool
 |[]=>true
 |n::r=>if n=b then false else if n=a then true else befB a b r
def z7v(a b n:Nat):∀ r:List Nat,befB a b (r++[n])=(befB a b r&&!(decide (n=b)&&!decide (a∈r)))
 |[]=>by
  show(if n=b then false else if n=a then true else true)=_;by_cases h:n=b
  ·simp[h,befB]
  ·simp[h,befB]
 |m::r=>by
  show(if m=b then false else if m=a then true else befB a b (r++[n]))=_;rw[befB];by_cases h:m=b
  ·rw[if_pos h,if_pos h];rfl
  ·rw[if_neg h,if_neg h];by_cases h2:m=a
   ·subst h2;simp
   ·rw[if_neg h2,if_neg h2,z7v a b n r];have:a∈m::r↔a∈r:=by rw[yyk];exact⟨fun h=>h.resolve_left fun e=>h2 e.symm,.inr⟩
    rw[decide_eq_decide.2 this]
def okC(one two:Int)(row:List Nat)(n:Nat):Bool:=!(decide (0≤one)&&decide ((n:Int)=two)&&!decide (one.toNat∈row))
def rowsC(one two:Int)(N:Nat):Nat→List (List Nat)
 |0=>[[]]
 |k+1=>(rowsC one two N k).flatMap fun row=>((Sh.freeL N row).filter (okC one two row)).map fun n=>row++[n]
def q97(two:Int){one:Int}(h:one<0)(N:Nat):∀ k,rowsC one two N k=lvl N k
 |0=>rfl
 |k+1=>by rw[rowsC,lvl,q97 two h N k];congr 1;funext row;rw[List.filter_eq_self.2 fun n _=>by unfold okC;rw[decide_eq_false (by omega)];rfl]
def q1h{α β:Type}(P:α→Bool)(f:α→List β):∀ L:List α,(L.filter P).flatMap f=L.flatMap fun a=>if P a=true then f a else []
 |[]=>rfl
 |a::L=>by
  rw[List.flatMap_cons,← q1h P f L];by_cases h:P a=true
  ·rw[List.filter_cons_of_pos h,List.flatMap_cons,if_pos h]
  ·rw[yx7 h,if_neg h,List.nil_append]
def q0e{α β:Type}(P:β→Bool)(f:α→List β):∀ L:List α,(L.flatMap f).filter P=L.flatMap fun a=>(f a).filter P
 |[]=>rfl
 |a::L=>by rw[List.flatMap_cons,List.flatMap_cons,List.filter_append,q0e P f L]
def z23(a b:Nat)(N:Nat):∀ k,rowsC (a:Int) (b:Int) N k=(lvl N k).filter (befB a b)
 |0=>rfl
 |k+1=>by
  rw[rowsC,lvl,z23 a b N k,q1h,q0e];congr 1;funext row;have e:∀ n:Nat,okC (a:Int) (b:Int) row n=!(decide (n=b)&&!decide (a∈row)):=fun n=>by unfold okC;rw[decide_eq_true (by omega:(0:Int)≤(a:Int)),Bool.true_and,Int.toNat_natCast,decide_eq_decide.2 (Int.ofNat_inj:((n:Int)=(b:Int))↔n=b)]
  rw[List.filter_map];have e2:(befB a b∘fun n=>row++[n])=fun n=>befB a b row&&okC (a:Int) (b:Int) row n:=by funext n;show befB a b (row++[n])=_;rw[z7v,e n]
  rw[e2];by_cases h:befB a b row=true
  ·rw[if_pos h,h];rfl
  ·rw[if_neg h,Bool.eq_false_iff.2 h];simp
def plR(l:List Sh)(r:List Nat):Sh:=(((orN 0 r:Nat):Int),(endP l (0,0) r).1,(endP l (0,0) r).2,())
def bitB(p:Sh)(k:Nat):Bool:=decide ((p.1.toNat / 2 ^ k) &&& 1=1)
def z5z(l:List Sh)(r:List Nat)(k:Nat):bitB (plR l r) k=decide (k∈r):=by unfold bitB plR;rw[Int.toNat_natCast];exact decide_eq_decide.2 (z2w r k)
def nxP(l:List Sh)(p:Sh)(n:Nat):Sh:=(((p.1.toNat ||| 2 ^ n:Nat):Int),(nx l (p.2.1,p.2.2.1) n).1,(nx l (p.2.1,p.2.2.1) n).2,())
def nx_plR(l:List Sh)(r:List Nat)(n:Nat):nxP l (plR l r) n=plR l (r++[n]):=by unfold nxP plR;rw[Int.toNat_natCast,q3u,q30]
def skipB(one two:Int)(p:Sh)(n:Nat):Bool:=bitB p n||(decide (0≤one)&&decide ((n:Int)=two)&&!bitB p one.toNat)
def extC(l:List Sh)(one two:Int)(p:Sh):Nat→List Sh
 |0=>[]
 |k+1=>extC l one two p k++if skipB one two p k=true then [] else [nxP l p k]
def j3d(l:List Sh)(one two:Int)(r:List Nat):∀ N,extC l one two (plR l r) N=((Sh.freeL N r).filter (okC one two r)).map fun n=>plR l (r++[n])
 |0=>rfl
 |k+1=>by
  rw[extC,j3d l one two r k,z3r,List.filter_append,yx5];congr 1;unfold skipB okC;rw[z5z,z5z];by_cases h:k∈r
  ·rw[decide_eq_true h,if_pos h];rfl
  ·rw[decide_eq_false h,if_neg h,Bool.false_or,nx_plR];cases hb:(decide (0≤one)&&decide ((k:Int)=two)&&!decide (one.toNat∈r)) with
   |true=>simp only[if_true,List.filter_cons,hb];rfl
   |false=>simp only[yyt,if_false,List.filter_cons,hb,Bool.not_false,if_true,List.filter_nil,yy4,List.map_nil]
def z11(l:List Sh)(one two:Int)(p:Sh):∀ k,(extC l one two p k).length≤k
 |0=>yyn _
 |k+1=>by rw[extC,yyw];have:=z11 l one two p k;split<;>simp<;>omega
def keepP(le:Int)(p:Sh):Bool:=!(decide (p=T0)||decide (p.2.2.1>le))
def placesC(l:List Sh)(one two le:Int):Nat→List Sh
 |0=>[T0]
 |k+1=>((placesC l one two le k).flatMap fun p=>extC l one two p l.length).filter (keepP le)
def end_grow(hl:okD l)(r:List Nat)(n:Nat):endS l (0,0) r≤endS l (0,0) (r++[n]):=by unfold endS;rw[q30];have h:=hl.get n;unfold okS at h;unfold nx;dsimp only;omega
def keep_plR(le:Int)(r:List Nat)(n:Nat):keepP le (plR l (r++[n]))=decide (endS l (0,0) (r++[n])≤le):=by
 have h1:plR l (r++[n])≠T0:=fun e=>by have h:=z5z l (r++[n]) n;rw[e,decide_eq_true (by simp)] at h;unfold bitB at h;simp at h
 unfold keepP;rw[decide_eq_false h1,Bool.false_or];show(!decide (endS l (0,0) (r++[n])>le))=_;rw[← decide_not];exact decide_eq_decide.2 Int.not_lt
def q8g{l:List Sh}(hl:okD l)(one two:Int){le:Int}(h0:0≤le):∀ k,placesC l one two le k=((rowsC one two l.length k).filter fun r=>decide (endS l (0,0) r≤le)).map (plR l)
 |0=>by have e:decide (endS l (0,0) []≤le)=true:=decide_eq_true h0;rw[placesC,rowsC,List.filter_cons_of_pos (by exact e)];rfl
 |k+1=>by
  rw[placesC,q8g hl one two h0 k,List.flatMap_map,q0e,q1h,rowsC,q0e,List.map_flatMap];congr 1;funext r;rw[j3d,List.filter_map,List.filter_map,List.map_map];have e1:(keepP le∘fun n=>plR l (r++[n]))=((fun r=>decide (endS l (0,0) r≤le))∘fun n=>r++[n]):=by funext n;exact keep_plR le r n
  rw[e1];by_cases h:endS l (0,0) r≤le
  ·rw[if_pos (decide_eq_true h)];rfl
  ·rw[if_neg (by simpa using h)];have:∀ L:List Nat,L.filter ((fun r=>decide (endS l (0,0) r≤le))∘fun n=>r++[n])=[]:=fun L=>by rw[List.filter_eq_nil_iff];intro n _;have:=end_grow hl r n;show ¬ decide (endS l (0,0) (r++[n])≤le)=true;simp;omega
   rw[this];rfl
def cntS(l:List Sh)(one two:Int):Int:=((placesC l one two (leS l) l.length).length:Nat)
def j32(hl:okD l)(h:one<0):cntS l one two=((bestsL l).length:Nat):=by unfold cntS bestsL;rw[q8g hl one two (le_pos hl),yxy,q97 two h];congr 2;refine List.filter_congr fun o ho=>decide_eq_decide.2 ?_;have:=le_all hl ho;constructor<;>intro<;>omega
def cnt_bef(hl:okD l)(a b:Nat):cntS l a b=(((bestsL l).filter (befB a b)).length:Nat):=by unfold cntS bestsL;rw[q8g hl a b (le_pos hl),yxy,z23,List.filter_filter,List.filter_filter];congr 2;refine List.filter_congr fun o ho=>?_;have:=le_all hl ho;rw[Bool.and_comm];congr 1;exact decide_eq_decide.2 (by constructor<;>intro<;>omega)
end Go.Proofs.YtjmhhehhfeengaaGreatDoor.Pr
namespace Go.Proofs.YtjmhhehhfeengaaGreatDoor.Pr
open Go Go.RowKit Ox Ox.Sh
attribute [local irreducible] JC JL JK JW
def bstep(l:List Sh)(q:List (List Nat)×Int)(o:List Nat):List (List Nat)×Int:=if q.2<0∨endS l (0,0) o<q.2 then([o],endS l (0,0) o) else if endS l (0,0) o=q.2 then(q.1++[o],q.2) else q
variable{l:List Sh}
def end_pos(hl:okD l)(o:List Nat):0≤endS l (0,0) o:=(q4t hl o (p:=(0,0)) (B:=0) ⟨by decide,by decide⟩ ⟨by decide,by decide⟩).2.1
def BI(l:List Sh)(done:List (List Nat))(q:List (List Nat)×Int):Prop:=(done=[]∧q=([],-1))∨(0≤q.2∧(∃ o∈done,endS l (0,0) o=q.2)∧(∀ o∈done,q.2≤endS l (0,0) o)∧q.1=done.filter fun o=>decide (endS l (0,0) o=q.2))
def BI.step(hl:okD l){done:List (List Nat)}{q:List (List Nat)×Int}(h:BI l done q)(o:List Nat):BI l (done++[o]) (bstep l q o):=by
 have hp:=end_pos hl o;right;rcases h with⟨rfl,rfl⟩|⟨h1,h2,h3,h4⟩
 ·unfold bstep;rw[if_pos (.inl (by decide))];refine⟨hp,⟨o,by simp,rfl⟩,fun x hx=>?_,?_⟩
  ·rw[List.nil_append,yyl] at hx;rw[hx];exact Int.le_refl _
  ·simp
 ·unfold bstep;by_cases c1:endS l (0,0) o<q.2
  ·rw[if_pos (.inr c1)];refine⟨hp,⟨o,by simp,rfl⟩,fun x hx=>?_,?_⟩
   ·dsimp only;rcases yy2.1 hx with hx|hx
    ·have:=h3 x hx;omega
    ·rw[yyl.1 hx];exact Int.le_refl _
   ·dsimp only;rw[List.filter_append];have:done.filter (fun x=>decide (endS l (0,0) x=endS l (0,0) o))=[]:=List.filter_eq_nil_iff.2 fun x hx=>by have:=h3 x hx;simp;omega
    rw[this];simp
  ·rw[if_neg (by omega)];by_cases c2:endS l (0,0) o=q.2
   ·rw[if_pos c2];refine⟨h1,⟨o,by simp,c2⟩,fun x hx=>?_,?_⟩
    ·dsimp only;rcases yy2.1 hx with hx|hx
     ·exact h3 x hx
     ·rw[yyl.1 hx];omega
    ·dsimp only;rw[List.filter_append,h4];simp[c2]
   ·rw[if_neg c2];obtain⟨y,hy,hye⟩:=h2;refine⟨h1,⟨y,by simp[hy],hye⟩,fun x hx=>?_,?_⟩
    ·rcases yy2.1 hx with hx|hx
     ·exact h3 x hx
     ·rw[yyl.1 hx];omega
    ·rw[List.filter_append,h4];simp[c2]
end Go.Proofs.YtjmhhehhfeengaaGreatDoor.Pr
namespace Go.Proofs.YtjmhhehhfeengaaGreatDoor.Pr
open Go Go.RowKit Ox Ox.Sh
abbrev shE:=Ent shT (.int .i64)
def z1w{α β:Type}{f:α→List β}{m:Nat}(hf:∀ a,(f a).length≤m):∀ l:List α,(l.flatMap f).length≤m*l.length
 |[]=>by simp
 |a::l=>by have:=z1w hf l;have:=hf a;simp only[List.flatMap_cons,yyw,List.length_cons,Nat.mul_add];omega
structure CM(Q:Sh→Prop)(es:List shE)(clk:Nat)(c:Sh→Nat):Prop where
 wf:MWF es clk
 nn:∀ e∈es,0≤(show Int from e.2.1)
 ok:∀ e∈es,Q e.1
 eq:∀ p:Sh,(show Int from mGet es p (0:Int))=(c p:Int)
variable{Q:Sh→Prop}
def CM.congr{es:List shE}{c c':Sh→Nat}(h:CM Q es clk c)(hc:∀ p,c p=c' p):CM Q es clk c':=⟨h.wf,h.nn,h.ok,fun p=>by rw[← hc p];exact h.eq p⟩
def CM.nil(Q:Sh→Prop)(clk:Nat):CM Q [] clk fun _=>0:=⟨.nil,(fun _ h=>by cases h),(fun _ h=>by cases h),fun _=>rfl⟩
variable{c:Sh→Nat}
def CM.add{es:List shE}(h:CM Q es clk c)(q:Sh)(n:Nat)(hq:Q q){v:Int}(hv:v=(c q:Int)+n) :
  CM Q (mPut es clk q v) (mClk es clk q) fun p=>if p=q then c p+n else c p:=by
 refine⟨h.wf.put,fun e he=>?_,fun e he=>?_,fun p=>?_⟩
 ·rcases(q0q h.wf).1 he with⟨h1,_⟩|⟨_,h1,_⟩
  ·exact h.nn e h1
  ·show(0:Int)≤e.2.1;rw[h1];show(0:Int)≤v;omega
 ·rcases(q0q h.wf).1 he with⟨h1,_⟩|⟨h1,_,_⟩
  ·exact h.ok e h1
  ·show Q e.1;rw[h1];exact hq
 ·show(mGet (mPut es clk q v) p (0:Int):Int)=_;rw[z64 h.wf (inferInstanceAs (Decidable ((p:Sh)=q)))];by_cases e:p=q
  ·rw[if_pos e,if_pos e,e];exact hv
  ·rw[if_neg e,if_neg e];exact h.eq p
def bag(es:List shE):List Sh:=es.flatMap fun e=>List.replicate (show Int from e.2.1).toNat (e.1:Sh)
def z7x(es:List shE)(e:shE):bag (es++[e])=bag es++List.replicate (show Int from e.2.1).toNat (e.1:Sh):=by simp[bag]
def j3w(n:Nat)(a p:Sh):(List.replicate n a).count p=if p=a then n else 0:=by
 rw[List.count_replicate];by_cases e:p=a
 ·subst e;simp
 ·rw[if_neg e,if_neg];simpa using fun h=>e h.symm
def z3z{clk:Nat}:∀ {es:List shE},MWF es clk→(∀ e∈es,0≤(show Int from e.2.1))→∀ p:Sh,((bag es).count p:Int)=mGet es p (0:Int)
 |[],_,_,p=>rfl
 |e::es,hw,hn,p=>by
  have hw':MWF es clk:=hw.sub (List.sublist_cons_self e es);have ih:=z3z hw' (fun a ha=>hn a (yyh _ ha)) p;have hk:∀ a∈es,a.1≠e.1:=fun a ha h=>(yxh.1 hw.nk).1 (yy0.2 ⟨a,ha,h⟩);have e1:bag (e::es)=List.replicate (show Int from e.2.1).toNat (e.1:Sh)++bag es:=rfl;rw[e1,List.count_append,j3w];have hne:=hn e yyg;by_cases h:p=e.1
  ·rw[if_pos h];have h0:((bag es).count p:Int)=0:=by rw[ih,q0r (fun a ha hx=>hk a ha (hx.trans h))]
   have h2:mGet (e::es) p (0:Int)=e.2.1:=by rw[h];exact f8 hw yyg
   rw[h2];have:((show Int from e.2.1).toNat:Int)=e.2.1:=Int.toNat_of_nonneg hne;omega
  ·rw[if_neg h,yxw,ih];cases hi:mIdx es p with
   |none=>
    rw[d9] at hi;rw[q0r hi,q0r];intro a ha;rcases yyk.1 ha with rfl|ha
    ·exact fun h'=>h h'.symm
    ·exact hi a ha
   |some j=>obtain⟨hl,hk2⟩:=t7 hi;rw[← hk2,f8 hw' (yyv hl),f8 hw (yyh _ (yyv hl))]
def z2j{es:List shE}{L:List Sh}(h:CM Q es clk fun p=>L.count p):(bag es).Perm L:=by rw[List.perm_iff_count];intro p;have:=z3z h.wf h.nn p;rw[show mGet es p (0:Int)=((L.count p:Nat):Int) from h.eq p] at this;omega
def q5k{α β:Type}{f:α→List β}{l l':List α}(h:l.Perm l'):(l.flatMap f).Perm (l'.flatMap f):=by
 induction h with
 |nil=>exact .refl _
 |cons a _ ih=>simp only[List.flatMap_cons];exact ih.append_left _
 |swap a b l=>simp only[List.flatMap_cons,← yxb];exact List.perm_append_comm.append_right _
 |trans _ _ h1 h2=>exact h1.trans h2
def z2c(n:Nat)(a:Sh)(f:Sh→List Sh)(q:Sh):((List.replicate n a).flatMap f).count q=n*(f a).count q:=by
 induction n with
 |zero=>simp
 |succ n ih=>rw[List.replicate_succ,List.flatMap_cons,List.count_append,ih,Nat.succ_mul,Nat.add_comm]
structure Far(es done:List shE):Prop where
 rest:∃ rest,(done++rest).Perm es
def Far.nil(es:List shE):Far es []:=⟨es,.refl _⟩
def Far.sub{es done:List shE}(h:Far es done):∀ e∈done,e∈es:=by obtain⟨rest,h⟩:=h.rest;exact fun e he=>h.mem_iff.1 (yxm _ he)
def Far.snoc{es done:List shE}(hw:MWF es clk)(h:Far es done){e:shE}(he:e∈es)(hs:e.2.2∉done.map (·.2.2)):Far es (done++[e]):=by obtain⟨rest,h⟩:=h.rest;have:e∈rest:=(yy2.1 (h.mem_iff.2 he)).resolve_left fun hd=>hs (List.mem_map_of_mem hd);obtain⟨s,t,rfl⟩:=List.append_of_mem this;refine⟨s++t,.trans ?_ h⟩;rw[yxb];refine List.Perm.append_left _ ?_;rw[List.singleton_append];exact List.perm_middle.symm
def Far.all{es done:List shE}(hw:MWF es clk)(h:Far es done)(ha:∀ e∈es,e.2.2∈done.map (·.2.2)):done.Perm es:=by
 obtain⟨rest,h⟩:=h.rest;cases rest with
 |nil=>simpa using h
 |cons x r=>have hx:x∈es:=h.mem_iff.1 (List.mem_append_right _ yyg);obtain⟨y,hy,hxy⟩:=yy0.1 (ha x hx);have hn:((done++x::r).map (·.2.2)).Nodup:=(h.map _).nodup_iff.2 hw.nb;rw[yx5,List.nodup_append] at hn;exact absurd hxy (hn.2.2 _ (List.mem_map_of_mem hy) _ (by simp))
def Far.len{es done:List shE}(h:Far es done):(bag done).length≤(bag es).length:=by obtain⟨rest,h⟩:=h.rest;have:=(q5k (f:=fun e:shE=>List.replicate (show Int from e.2.1).toNat (e.1:Sh)) h).length_eq;rw[List.flatMap_append,yyw] at this;unfold bag;omega
def far_step{done:List shE}{p:Sh}{many:Int}{born:Nat}{f:Sh→List Sh}(q:Sh):((bag (done++[(p,many,born)])).flatMap f).count q=((bag done).flatMap f).count q+many.toNat*(f p).count q:=by rw[z7x,List.flatMap_append,List.count_append,z2c]
def z89(f:Sh→Bool)(l:List Sh)(p:Sh):(l.filter f).count p=if f p=true then l.count p else 0:=by
 split
 ·rename_i h;exact List.count_filter h
 ·rename_i h;exact List.count_eq_zero.2 fun hm=>h (yxl.1 hm).2
def j34{es es3:List shE}{f:Sh→Bool}(h:CM Q es clk c)(hs:es3.Sublist es)(hi:∀ e∈es,e∈es3↔f e.1=true):CM Q es3 clk fun p=>if f p=true then c p else 0:=by
 have hw:=h.wf.sub hs;refine⟨hw,fun e he=>h.nn e (hs.subset he),fun e he=>h.ok e (hs.subset he),fun p=>?_⟩;have h1:=h.eq p;cases hx:mIdx es p with
 |none=>
  rw[d9] at hx;have e1:mGet es p (0:Int)=(0:Int):=q0r hx;have e2:mGet es3 p (0:Int)=(0:Int):=q0r fun e he=>hx e (hs.subset he);show mGet es3 p (0:Int)=_;rw[e2];have h0:(c p:Int)=0:=by rw[← h1];exact e1
  have h0':c p=0:=by omega
  rw[h0'];split<;>rfl
 |some k=>
  obtain⟨hl,hk⟩:=t7 hx;have he:=yyv hl;generalize es[k]=e at hk he;subst hk;show mGet es3 e.1 (0:Int)=_;by_cases hf:f e.1=true
  ·rw[if_pos hf,f8 hw ((hi e he).2 hf),← h1];exact(f8 h.wf he).symm
  ·rw[if_neg hf];refine q0r fun a ha hk=>hf ?_;have:=h.wf.eq (hs.subset ha) he hk;subst this;exact(hi a he).1 ha
def beq_dec[BEq α][LawfulBEq α](p a:α)[Decidable (p=a)]:(a==p)=decide (p=a):=by rw[yy5,beq_iff_eq,decide_eq_true_iff];exact eq_comm
def cnt1[BEq α][LawfulBEq α](c n:Nat)(p a:α)[Decidable (p=a)]:(if p=a then c+n else c)=c+n*[a].count p:=by
 rw[List.count_singleton,beq_dec];by_cases h:p=a
 ·rw[if_pos h,decide_eq_true h,if_pos rfl];omega
 ·rw[if_neg h,decide_eq_false h,if_neg (by decide)];omega
end Go.Proofs.YtjmhhehhfeengaaGreatDoor.Pr
namespace Go.Proofs.YtjmhhehhfeengaaGreatDoor.Pr
open Go Go.RowKit Ox Ox.Sh
attribute [local irreducible] JC JL JK JW
def eqP:EqT Tryz.prog shT 160:=.of (by decide +kernel)
set_option maxRecDepth 4096 in
def mpP:MapT Tryz.prog shT (.int .i64) 213 160 3:=.of (by rfl) (by decide +kernel)
def PB(i:Nat)(p:Sh):Prop:=(0≤p.1∧p.1<256)∧(0≤p.2.1∧p.2.1≤1000*i)∧0≤p.2.2.1∧p.2.2.1≤2000+1000*i
def cm_start:CM (PB 0) (mPut [] 0 T0 1) 1 fun p=>([T0]:List Sh).count p:=by
 have hT:PB 0 T0:=⟨⟨Int.le_refl _,by decide⟩,⟨Int.le_refl _,Int.le_refl _⟩,Int.le_refl _,by show(0:Int)≤2000+1000*((0:Nat):Int);omega⟩;refine CM.congr (CM.add (CM.nil (PB 0) 0) T0 1 hT (v:=1) (by simp)) fun p=>?_;rw[List.count_cons,List.count_nil];by_cases h:p=T0
 ·rw[if_pos h,if_pos (by rw[h];exact beq_self_eq_true _)]
 ·rw[if_neg h,if_neg (by simpa using fun e=>h e.symm)]
variable{l:List Sh}
def nx_PB(hl:okD l){p:Sh}(h:PB i p)(hn:n<8):PB (i+1) (nxP l p n):=by
 obtain⟨⟨h1,h2⟩,⟨h3,h4⟩,h5,h6⟩:=h;have h7:=or_lt (t:=p.1.toNat) (n:=n) (by omega) hn;have h8:=nx_bd hl n (p:=(p.2.1,p.2.2.1)) (B:=1000*i) ⟨h3,h4⟩ ⟨h5,by dsimp only;omega⟩;unfold PB nxP;dsimp only at h8 ⊢
 push_cast
 refine⟨⟨by omega,by omega⟩,⟨by omega,by omega⟩,by omega,by omega⟩
def q6j(l:List Sh)(one two le:Int)(h8:l.length≤8):∀ i,(placesC l one two le i).length≤8 ^ i
 |0=>by simp[placesC]
 |i+1=>by have h1:=q6j l one two le h8 i;have h2:=z1w (m:=8) (fun p=>Nat.le_trans (z11 l one two p l.length) h8) (placesC l one two le i);have h3:=yx8 (keepP le) ((placesC l one two le i).flatMap fun p=>extC l one two p l.length);rw[placesC,Nat.pow_succ];omega
set_option maxHeartbeats 4000000 in
def fn78(l:List Sh)(pr:Int)(one two:Int)(hl:okD l)(h8:l.length≤8)(h1:one<l.length) :
  Ox.Fn Tryz.prog 78 (.acons (vH l pr (leS l)) (.acons (vI one) (.acons (vI two) .anil))) (·=vI (cntS l one two)):=by
 refine Ox.Fn.intro xok Tryz.func78 rfl Tryz.call78 (yyc rfl) (fun E M0 up=>?_);refine z5 ?_;have hres:cntS l one two=((placesC l one two (leS l) l.length).length:Nat):=rfl;rw[hres];clear hres;generalize leS l=le;refine zK3 ?_;refine JK.loop (σ:=Nat×List shE×Nat) (fun q=>⟨[(0,vH l pr le),(1,vI one),(2,vI two),(7,.lf (.optr 0 [])),(8,.lf (.mp 1)),(26,vI l.length),(27,vI (q.1:Int))],
   [(0,.cell shT (vP T0)),(1,.map shT (.int .i64) q.2.1 q.2.2)],2⟩)
  (fun q=>q.1≤l.length∧CM (PB q.1) q.2.1 q.2.2 fun p=>(placesC l one two le q.1).count p) (fun q=>l.length-q.1)
  (0,mPut [] 0 T0 1,1) ⟨by simp,cm_start⟩ (by exact zJ) fun q hq=>?_
 obtain⟨i,es,clk⟩:=q;obtain⟨hi,hcm⟩:=hq;dsimp only at hi hcm;refine zK3 ?_;refine q7 rfl (fun hc=>?_) (fun hc=>?_)
 ·replace hc:=zC hc;have hi':i<l.length:=by omega
  refine zK3 ?_;refine z2q (σ:=List shE×List shE×Nat×Nat) (τ:=List shE×Nat) (fun q=>⟨[(0,vH l pr le),(1,vI one),(2,vI two),(7,.lf (.optr 0 [])),(8,.lf (.mp 1)),(9,.lf (.mp 2)),(26,vI l.length),(27,vI (i:Int)),(31,.lf (.itr 3))],
    [(0,.cell shT (vP T0)),(1,.map shT (.int .i64) es clk),(2,.map shT (.int .i64) q.2.1 q.2.2.1),(3,.iter 1 clk (q.1.map (·.2.2)) q.2.2.2)],4⟩)
   (fun q=>Far es q.1∧clk≤q.2.2.2∧CM (PB (i+1)) q.2.1 q.2.2.1 fun p=>((bag q.1).flatMap (fun p=>extC l one two p l.length)).count p) (fun q=>mLeft es (q.1.map (·.2.2)))
   ([],[],0,clk) ⟨Far.nil es,yyn _,CM.nil _ 0⟩ (by exact zJ)
   (fun q=>⟨[(0,vH l pr le),(1,vI one),(2,vI two),(7,.lf (.optr 0 [])),(9,.lf (.mp 1)),(26,vI l.length),(27,vI (i:Int))],
    [(0,.cell shT (vP T0)),(1,.map shT (.int .i64) q.1 q.2)],2⟩) (fun q=>CM (PB (i+1)) q.1 q.2 fun p=>((placesC l one two le i).flatMap (fun p=>extC l one two p l.length)).count p) (fun q hcm2=>?_) (fun q hq=>?_)
  ·obtain⟨es2,clk2⟩:=q;dsimp only at hcm2;refine zK3 ?_;have hnx:∀ {l:List shE},l.Sublist es2→MWF l clk2:=fun h=>hcm2.wf.sub h;refine z2q (σ:=List shE×List Nat×Nat) (τ:=List shE) (fun q=>⟨[(0,vH l pr le),(1,vI one),(2,vI two),(7,.lf (.optr 0 [])),(9,.lf (.mp 1)),(26,vI l.length),(27,vI (i:Int)),(81,.lf (.itr 2))],
     [(0,.cell shT (vP T0)),(1,.map shT (.int .i64) q.1 clk2),(2,.iter 1 clk2 q.2.1 q.2.2)],3⟩)
    (fun q=>q.1.Sublist es2∧clk2≤q.2.2∧∀ e∈es2,e∈q.1↔(e.2.2∈q.2.1→keepP le e.1=true)) (fun q=>mLeft q.1 q.2.1)
    (es2,[],clk2) ⟨List.Sublist.refl _,yyn _,fun e he=>⟨fun _=>(fun h=>by cases h),fun _=>he⟩⟩ (by exact zJ)
    (fun q=>⟨[(0,vH l pr le),(1,vI one),(2,vI two),(7,.lf (.optr 0 [])),(9,.lf (.mp 1)),(26,vI l.length),(27,vI (i:Int))],
     [(0,.cell shT (vP T0)),(1,.map shT (.int .i64) q clk2)],2⟩) (fun q=>CM (PB (i+1)) q clk2 fun p=>(placesC l one two le (i+1)).count p) (fun es3 hcm3=>?_) (fun q hq=>?_)
   ·refine zK3 ?_;exact⟨(i+1,es3,clk2),by exact zJ,⟨by omega,hcm3⟩,by dsimp only;omega⟩
   ·obtain⟨es3,seen,last⟩:=q;obtain⟨hsub,hlast,hiff⟩:=hq;dsimp only at hsub hlast hiff;have hw3:=hnx hsub;refine zK3 ?_;refine j5f rfl rfl rfl hw3.lt hlast rfl (fun hall=>?_) (fun e he hes=>?_)
    ·refine zK3 ?_;refine q7 rfl (fun hc=>absurd hc (by decide)) (fun _=>?_);refine zK3 ?_;refine⟨es3,by exact zJ,(j34 hcm2 hsub fun e he=>⟨fun h=>(hiff e he).1 h (hall e h),fun h=>(hiff e he).2 fun _=>h⟩).congr fun p=>?_⟩;rw[placesC];exact(z89 _ _ _).symm
    ·have hlt:=z1h he hes;have he2:=hsub.subset he;obtain⟨e1,e2,e3,many,born,rfl⟩:∃ (e1 e2 e3 many:Int) (born:Nat),e=((e1,e2,e3,()),many,born):=⟨e.1.1,e.1.2.1,e.1.2.2.1,e.2.1,e.2.2,rfl⟩;have hok:PB (i+1) (e1,e2,e3,()):=hcm2.ok _ he2;obtain⟨hk1,hk2,hk3⟩:=hok;dsimp only at hk1 hk2 hk3;refine zK3 ?_;refine q7 rfl (fun _=>?_) (fun hc=>absurd hc (by decide));refine zK3 ?_;refine j5g rfl rfl rfl rfl rfl he hw3 rfl ?_;refine zK3 ?_;have hkf:keepP le (e1,e2,e3,())=!(bif shT.eqB (e1,e2,e3,()) T0 then true else decide (e3>le)):=by
      unfold keepP;have:shT.eqB (e1,e2,e3,()) T0=decide ((e1,e2,e3,())=T0):=by rw[yy5,x3,decide_eq_true_iff]
      rw[this];cases decide ((e1,e2,e3,())=T0)<;>rfl
     refine q7 rfl (fun hf=>?_) (fun hf=>?_)
     ·have hkf:keepP le (e1,e2,e3,())=false:=by rw[hkf];exact congrArg (!·) hf
      refine zK3 ?_;refine⟨(mDel es3 (e1,e2,e3,()),seen++[born],clk2),by exact zJ,⟨z1j.trans hsub,yyn _,fun a ha=>?_⟩,Nat.lt_of_le_of_lt (j15 z1j) hlt⟩;rw[q7p hw3,hiff a ha];refine⟨fun h hs=>?_,fun h=>⟨fun hs=>h (yxm _ hs),fun hk=>?_⟩⟩
      ·rcases yy2.1 hs with hs|hs
       ·exact h.1 hs
       ·exact absurd (congrArg (·.1) (hcm2.wf.eqb ha he2 (yyl.1 hs))) h.2
      ·have:=h (List.mem_append_right _ (yyl.2 (congrArg (·.2.2) (hcm2.wf.eq ha he2 hk))));rw[hk,hkf] at this;cases this
     ·have hkf:keepP le (e1,e2,e3,())=true:=by rw[hkf];exact congrArg (!·) hf
      refine zK3 ?_;refine⟨(es3,seen++[born],clk2),by exact zJ,⟨hsub,yyn _,fun a ha=>?_⟩,hlt⟩;rw[hiff a ha];refine⟨fun h hs=>?_,fun h=>fun hs=>h (yxm _ hs)⟩;rcases yy2.1 hs with hs|hs
      ·exact h hs
      ·rw[hcm2.wf.eqb ha he2 (yyl.1 hs)];exact hkf
  ·obtain⟨done,es2,clk2,last⟩:=q;obtain⟨hfar,hlast,hcm2⟩:=hq;dsimp only at hfar hlast hcm2;have hw:=hcm2.wf;refine zK3 ?_;refine j5f rfl rfl rfl hcm.wf.lt hlast rfl (fun hall=>?_) (fun e he hes=>?_)
   ·refine zK3 ?_;refine q7 rfl (fun hc=>absurd hc (by decide)) (fun _=>?_);refine zK3 ?_;refine⟨(es2,clk2),by exact zJ,hcm2.congr fun p=>?_⟩;exact(q5k ((q5k (hfar.all hcm.wf hall)).trans (z2j hcm))).count_eq p
   ·have hfar':=hfar.snoc hcm.wf he hes;have hlt:=z1h he hes;obtain⟨e1,e2,e3,many,born,rfl⟩:∃ (e1 e2 e3 many:Int) (born:Nat),e=((e1,e2,e3,()),many,born):=⟨e.1.1,e.1.2.1,e.1.2.2.1,e.2.1,e.2.2,rfl⟩;have hok:PB i (e1,e2,e3,()):=hcm.ok _ he;obtain⟨hk1,hk2,hk3⟩:=hok;dsimp only at hk1 hk2 hk3;have hnn:0≤many:=hcm.nn _ he;obtain⟨t,rfl⟩:∃ t:Nat,e1=(t:Int):=⟨e1.toNat,by omega⟩;refine zK3 ?_;refine q7 rfl (fun _=>?_) (fun hc=>absurd hc (by decide));refine zK3 ?_;refine j5g rfl rfl rfl rfl rfl he hcm.wf rfl ?_;refine zK3 ?_;have hfs:=fun q=>far_step (done:=done) (p:=((t:Int),e2,e3,())) (many:=many) (born:=born) (f:=fun p=>extC l one two p l.length) q;refine JK.loop (σ:=Nat×List shE×Nat) (fun q=>⟨[(0,vH l pr le),(1,vI one),(2,vI two),(7,.lf (.optr 0 [])),(8,.lf (.mp 1)),(9,.lf (.mp 2)),(10,.lf (.optr 4 [])),(11,vI many),(26,vI l.length),(27,vI (i:Int)),(31,.lf (.itr 3)),(42,vI l.length),(43,vI (q.1:Int))],
     [(0,.cell shT (vP T0)),(1,.map shT (.int .i64) es clk),(2,.map shT (.int .i64) q.2.1 q.2.2),(3,.iter 1 clk (done.map (·.2.2)++[born]) clk),(4,.cell shT (vP ((t:Int),e2,e3,())))],5⟩)
     (fun q=>q.1≤l.length∧CM (PB (i+1)) q.2.1 q.2.2 fun p=>((bag done).flatMap (fun p=>extC l one two p l.length)).count p+many.toNat*(extC l one two ((t:Int),e2,e3,()) q.1).count p) (fun q=>l.length-q.1)
     (0,es2,clk2) ⟨yy7 _,hcm2.congr fun p=>by simp[extC]⟩ (by exact zJ) fun q hq=>?_
    obtain⟨n,es3,clk3⟩:=q;obtain⟨hn,hcm3⟩:=hq;dsimp only at hn hcm3;refine zK3 ?_;refine q7 rfl (fun hd=>?_) (fun hd=>?_)
    ·replace hd:=zC hd;have hn':n<l.length:=by omega
     have hdv:∀ k:Nat,0≤(t:Int) / 2 ^ k∧(t:Int) / 2 ^ k≤256:=fun k=>by
      have e:(t:Int) / 2 ^ k=((t / 2 ^ k:Nat):Int):=by push_cast;rfl
      rw[e];have:=Nat.div_le_self t (2 ^ k);generalize t / 2 ^ k=z at this ⊢;omega
     have hdn:=hdv n;have hdo:=hdv one.toNat;have hskA:bitB ((t:Int),e2,e3,()) n=(((((t:Int) / 2 ^ ((n:Int)).toNat).toNat &&& ((1:Int)).toNat:Nat):Int)==1):=by rw[q5z];unfold bitB;rw[Int.toNat_natCast,yy5,decide_eq_true_iff,beq_iff_eq];omega
     have hskB:∀ k:Nat,bitB ((t:Int),e2,e3,()) k=!(((((t:Int) / 2 ^ k).toNat &&& ((1:Int)).toNat:Nat):Int)==0):=fun k=>by have:=q5z t k;rw[Int.toNat_natCast] at this;rw[this];unfold bitB;rw[Int.toNat_natCast,yy5,decide_eq_true_iff,yy6,beq_eq_false_iff_ne,ne_eq,Nat.and_one_is_mod];omega
     have hnxt:∀ p,(extC l one two ((t:Int),e2,e3,()) (n+1)).count p=(extC l one two ((t:Int),e2,e3,()) n).count p+(if skipB one two ((t:Int),e2,e3,()) n=true then [] else [nxP l ((t:Int),e2,e3,()) n]).count p:=fun p=>by rw[extC,List.count_append]
     iterate 9 (refine zs rfl ?_)
     refine JK.cut (σ:=Unit) (fun _=>⟨[(0,vH l pr le),(1,vI one),(2,vI two),(7,.lf (.optr 0 [])),(8,.lf (.mp 1)),(9,.lf (.mp 2)),(10,.lf (.optr 4 [])),(11,vI many),(12,vI (n:Int)),(26,vI l.length),(27,vI (i:Int)),(31,.lf (.itr 3)),(42,vI l.length),(43,vI (n:Int))],
      [(0,.cell shT (vP T0)),(1,.map shT (.int .i64) es clk),(2,.map shT (.int .i64) es3 clk3),(3,.iter 1 clk (done.map (·.2.2)++[born]) clk),(4,.cell shT (vP ((t:Int),e2,e3,())))],5⟩)
      (fun _=>skipB one two ((t:Int),e2,e3,()) n=false) ?_ (fun _ hsk=>?_)
     ·by_cases h0:0≤one
      ·have hskC:skipB one two ((t:Int),e2,e3,()) n=(bif ((((t:Int) / 2 ^ ((n:Int)).toNat).toNat &&& ((1:Int)).toNat:Nat):Int)==1 then true else bif (bif decide (one ≥ 0) then((n:Int)==two) else false) then((((t:Int) / 2 ^ one.toNat).toNat &&& ((1:Int)).toNat:Nat):Int)==0 else false):=by unfold skipB;rw[← hskA,hskB one.toNat,Bool.not_not,decide_eq_true h0,Bool.true_and];have:decide ((n:Int)=two)=((n:Int)==two):=rfl;rw[this];cases bitB ((t:Int),e2,e3,()) n<;>cases ((n:Int)==two)<;>rfl
       refine zK3 ?_;refine q7 rfl (fun hf=>?_) (fun hf=>?_)
       ·have hsk:skipB one two ((t:Int),e2,e3,()) n=true:=hskC.trans hf;refine zK3 ?_;refine⟨(n+1,es3,clk3),by exact zJ,⟨by dsimp only;omega,hcm3.congr fun p=>?_⟩,by dsimp only;omega⟩;rw[hnxt,if_pos hsk];simp
       ·have hsk:skipB one two ((t:Int),e2,e3,()) n=false:=hskC.trans hf;refine zK3 ?_;exact⟨(),by exact zJ,hsk⟩
      ·by_cases hb:bitB ((t:Int),e2,e3,()) n=true
       ·have hsk:skipB one two ((t:Int),e2,e3,()) n=true:=by unfold skipB;rw[hb];rfl
        have hb':(((((t:Int) / 2 ^ ((n:Int)).toNat).toNat &&& ((1:Int)).toNat:Nat):Int)==1)=true:=hskA.symm.trans hb
        (repeat (first|refine zs rfl ?_|refine zg rfl rfl rfl ?_|refine zfl rfl (by simp only[wantB];rw[hb'];rfl) rfl ?_|refine z77 rfl hb' rfl rfl trivial trivial ?_))
        refine q7 rfl (fun _=>?_) (fun h=>absurd h (by decide));refine zK3 ?_;refine⟨(n+1,es3,clk3),by exact zJ,⟨by dsimp only;omega,hcm3.congr fun p=>?_⟩,by dsimp only;omega⟩;rw[hnxt,if_pos hsk];simp
       ·have hsk:skipB one two ((t:Int),e2,e3,()) n=false:=by unfold skipB;rw[Bool.eq_false_iff.2 hb,decide_eq_false h0];rfl
        have hb':(((((t:Int) / 2 ^ ((n:Int)).toNat).toNat &&& ((1:Int)).toNat:Nat):Int)==1)=false:=hskA.symm.trans (Bool.eq_false_iff.2 hb)
        (repeat (first|refine zt rfl (by simp only[wantB];rw[hb'];rfl) ?_|refine zfl rfl (by first|rfl|(simp only[wantB];exact decide_eq_false h0)) rfl ?_|refine z78 rfl (by first|rfl|exact hb'|exact decide_eq_false h0) rfl rfl trivial trivial ?_|refine zs rfl ?_))
        refine q7 rfl (fun h=>absurd h (by decide)) (fun _=>?_);refine zK3 ?_;exact⟨(),by exact zJ,hsk⟩
     ·have h75:=fn94 l pr le t e2 e3 n hl hn' h8 (by omega) (by omega) (by omega);have hQ:(((t ||| 2 ^ n:Nat):Int),(nx l (e2,e3) n).1,(nx l (e2,e3) n).2,())=nxP l ((t:Int),e2,e3,()) n:=by unfold nxP;rw[Int.toNat_natCast]
      rw[hQ] at h75;have hPB:=nx_PB hl (i:=i) (p:=((t:Int),e2,e3,())) ⟨hk1,hk2,hk3⟩ (n:=n) (by omega);rw[if_neg (by rw[hsk];simp)] at hnxt;generalize nxP l ((t:Int),e2,e3,()) n=Q at h75 hPB hnxt;have hw3:=hcm3.wf;have g4:=(z2j hcm).length_eq;have g5:=q6j l one two le h8 i;have g6:8 ^ i≤8 ^ 7:=yyy (by omega) (by omega);have g7:8 ^ 7=2097152:=rfl;have hmn:many≤2097152:=by have q1:(many:Int)=_:=(f8 hcm.wf he).symm.trans (hcm.eq ((t:Int),e2,e3,()));have q2:=List.count_le_length (a:=(((t:Int),e2,e3,()):Sh)) (l:=placesC l one two le i);omega
      have hcb:(((bag done).flatMap (fun p=>extC l one two p l.length)).count Q+many.toNat*(extC l one two ((t:Int),e2,e3,()) n).count Q:Nat)≤40000000:=by have q1:=List.count_le_length (a:=Q) (l:=(bag done).flatMap (fun p=>extC l one two p l.length));have q2:=z1w (m:=8) (fun p=>Nat.le_trans (z11 l one two p l.length) h8) (bag done);have q3:=hfar.len;have q4:=List.count_le_length (a:=Q) (l:=extC l one two ((t:Int),e2,e3,()) n);have q5:=z11 l one two ((t:Int),e2,e3,()) n;have q6:many.toNat*(extC l one two ((t:Int),e2,e3,()) n).count Q≤2097152*8:=Nat.mul_le_mul (by omega) (by omega);omega
      have hq0:(mGet es3 Q (Ty.dflt (.int .i64)):Int)=_:=hcm3.eq Q;have hq1:(0:Int)≤mGet es3 Q (Ty.dflt (.int .i64))∧(mGet es3 Q (Ty.dflt (.int .i64)):Int)+many≤50000000:=by rw[hq0];dsimp only[Ty.den];omega
      have hq1':(0:Int)≤mGet (mEnt es3 clk3 Q) Q (Ty.dflt (.int .i64))∧(mGet (mEnt es3 clk3 Q) Q (Ty.dflt (.int .i64)):Int)+many≤50000000:=by rw[z1i hw3];exact hq1
      refine q37 xk (Tryz.f78.body.getD .skip) ⟨[(0,vH l pr le),(1,vI one),(2,vI two),(7,.lf (.optr 0 [])),(8,.lf (.mp 1)),(9,.lf (.mp 2)),(10,.lf (.optr 4 [])),(11,vI many),(12,vI (n:Int)),(26,vI l.length),(27,vI (i:Int)),(31,.lf (.itr 3)),(42,vI l.length),(43,vI (n:Int))],
       [(0,.cell shT (vP T0)),(1,.map shT (.int .i64) es clk),(2,.map shT (.int .i64) (mPut es3 clk3 Q ((mGet es3 Q (Ty.dflt (.int .i64)):Int)+many)) (mClk es3 clk3 Q)),(3,.iter 1 clk (done.map (·.2.2)++[born]) clk),(4,.cell shT (vP ((t:Int),e2,e3,())))],5⟩ rfl 11 rfl ?_ ?_
      ·(refine q9 0 xk rfl rfl (q9 1 xk rfl rfl (q9 3 xk rfl rfl (q9 6 xk rfl rfl (z8 2 xk rfl rfl (zU 4 xk rfl rfl ?_)))));refine zK8 ?_;refine w8 ?_;refine q58 5 [8] xk StF.nil (BrF.one rfl rfl ?_ (BrF.one rfl rfl ?_ BrF.nil));(· refine zK8 ?_;refine w8 ?_;refine q9 7 xk rfl rfl (zU 8 xk rfl rfl ?_);refine zK8 ?_;refine w8 ?_;refine q9 9 xk rfl rfl (zU 10 xk rfl rfl ?_);refine zK8 ?_;refine w8 ?_;refine n8 xk StF.nil ?_;((refine q1i (by conv=>lhs;reduce) ?_ ?_ ?_ ?_ rfl<;>(repeat' (first|exact trivial|exact rfl|refine And.intro ?_ ?_|exact yyc rfl|refine q1x ?_|(refine congrArg (fun z:Int=>some (AV.val (.int .i64) z)) ?_;push_cast;omega)|exact congrArg (fun z:Int=>some (HO.map shT (.int .i64) (mPut es3 clk3 Q z) (mClk es3 clk3 Q))) (congrArg (fun z:Int=>z+many) (z1i hw3)))))));(· refine zK8 ?_;refine w8 ?_;refine q9 9 xk rfl rfl (zU 5 xk rfl rfl ?_);refine zK8 ?_;refine w8 ?_;refine q9 7 xk rfl rfl (zU 10 xk rfl rfl ?_);refine zK8 ?_;refine w8 ?_;refine n8 xk StF.nil ?_;((refine q1i (by conv=>lhs;reduce) ?_ ?_ ?_ ?_ rfl<;>(repeat' (first|exact trivial|exact rfl|refine And.intro ?_ ?_|exact yyc rfl|refine q1x ?_|(refine congrArg (fun z:Int=>some (AV.val (.int .i64) z)) ?_;push_cast;omega)|exact congrArg (fun z:Int=>some (HO.map shT (.int .i64) (mPut es3 clk3 Q z) (mClk es3 clk3 Q))) (congrArg (fun z:Int=>z+many) (z1i hw3))))))))
      have hcm4:=hcm3.add Q many.toNat hPB (v:=(mGet es3 Q (Ty.dflt (.int .i64)):Int)+many) (by rw[hq0];omega)
      generalize (mPut es3 clk3 Q ((mGet es3 Q (Ty.dflt (.int .i64)):Int)+many))=es4 at hcm4 ⊢;generalize mClk es3 clk3 Q=clk4 at hcm4 ⊢;refine zK3 ?_;refine⟨(n+1,es4,clk4),by exact zJ,⟨by dsimp only;omega,hcm4.congr fun p=>?_⟩,by dsimp only;omega⟩;rw[hnxt,Nat.mul_add,← Nat.add_assoc];exact cnt1 _ _ _ _
    ·replace hd:=zC hd;obtain rfl:n=l.length:=by omega
     refine zK3 ?_;refine⟨(done++[(((t:Int),e2,e3,()),many,born)],es3,clk3,clk),by(refine q1i (by conv=>lhs;reduce) ?_ ?_ ?_ ?_ rfl<;>(repeat' (first|exact trivial|exact rfl|refine And.intro ?_ ?_|exact yyc rfl|refine q1x ?_|(refine congrArg (fun z:Int=>some (AV.val (.int .i64) z)) ?_;push_cast;omega)|(simp)))),⟨hfar',yyn _,hcm3.congr fun p=>(hfs p).symm⟩,by simpa using hlt⟩
 ·replace hc:=zC hc;obtain rfl:i=l.length:=by omega
  have hbp:=z2j hcm;have hbl:=q6j l one two le h8 l.length;have g6:8 ^ l.length≤8 ^ 8:=yyy (by omega) (by omega);have g7:8 ^ 8=16777216:=rfl;refine zK3 ?_;refine JK.loop (σ:=List shE×Nat) (fun q=>⟨[(14,vI ((bag q.1).length:Nat)),(103,.lf (.itr 2))],
    [(1,.map shT (.int .i64) es clk),(2,.iter 1 clk (q.1.map (·.2.2)) q.2)],3⟩)
   (fun q=>Far es q.1∧clk≤q.2) (fun q=>mLeft es (q.1.map (·.2.2))) ([],clk) ⟨Far.nil es,yyn _⟩ (by exact zJ) fun q hq=>?_
  obtain⟨done,last⟩:=q;obtain⟨hfar,hlast⟩:=hq;dsimp only at hfar hlast;refine zK3 ?_;refine j5f rfl rfl rfl hcm.wf.lt hlast rfl (fun hall=>?_) (fun e he hes=>?_)
  ·have hfin:(bag done).length=(placesC l one two le l.length).length:=by rw[← hbp.length_eq];exact(q5k (hfar.all hcm.wf hall)).length_eq
   refine zK3 ?_;refine q7 rfl (fun hc=>absurd hc (by decide)) (fun _=>?_);refine zK3 ?_;refine⟨.inl rfl,_,_,rfl,trivial,?_⟩;exact congrArg (fun n:Nat=>vI (n:Int)) hfin
  ·have hfar':=hfar.snoc hcm.wf he hes;have hlt:=z1h he hes;obtain⟨p,many,born,rfl⟩:∃ (p:Sh) (many:Int) (born:Nat),e=(p,many,born):=⟨e.1,e.2.1,e.2.2,rfl⟩;have hnn:0≤many:=hcm.nn _ he;have hb1:=hfar'.len;rw[hbp.length_eq] at hb1;have hb2:(bag (done++[(p,many,born)])).length=(bag done).length+many.toNat:=by rw[z7x,yyw,List.length_replicate]
   generalize hbd:(bag done).length=B at hb2;have hB:((bag (done++[(p,many,born)])).length:Int)=(B:Int)+many:=by omega
   refine zK3 ?_;refine q7 rfl (fun _=>?_) (fun hc=>absurd hc (by decide));refine zK3 ?_;refine j5g rfl rfl rfl rfl rfl he hcm.wf rfl ?_;refine zK3 ?_;refine⟨(done++[(p,many,born)],clk),?_,⟨hfar',yyn _⟩,by simpa using hlt⟩;dsimp only;rw[hB,← hbd]
   (refine q1i (by conv=>lhs;reduce) ?_ ?_ ?_ ?_ rfl<;>(repeat' (first|exact trivial|exact rfl|refine And.intro ?_ ?_|exact yyc rfl|refine q1x ?_|(refine congrArg (fun z:Int=>some (AV.val (.int .i64) z)) ?_;push_cast;omega)|(simp))))
def bstI(l:List Sh):List Int:=if dayE l=0 then iL (bestO l) else []
def lstI(l:List Sh):Int:=if dayE l=0 then leS l else 0
abbrev vB3(a:List Int)(b c:Int):AV:=.tup (.acons (vL a) (.acons (vI b) (.acons (vI c) .anil)))
def j4h(hl:okD l):(bestO l).length=l.length:=(mem_lvl.1 (mem_bests.1 (best_in hl)).1).1
def fn24(l:List Sh):Ox.Fn Tryz.prog 24 (.acons (vD l) .anil) (·=vB3 (bstI l) (lstI l) (dayE l)):=by
 refine Ox.Fn.intro xok Tryz.func24 rfl Tryz.call24 (yyc rfl) (fun E M0 up=>?_);refine z5 ?_;have h55:=fn51 l;unfold vOp at h55;by_cases hc:dayE l=0
 ·obtain⟨d1,d8,dl⟩:=q89 hc;rw[if_pos hc,hc] at h55;have h56:=fn52 l (prS l) (leS l) dl d8;have hbl:=j4h dl;have e1:bstI l=iL (bestO l):=by unfold bstI;rw[if_pos hc]
  have e2:lstI l=leS l:=by unfold lstI;rw[if_pos hc]
  rw[e1,e2,hc];change Ox.Fn Tryz.prog 52 _ (·=vL (iL (bestO l))) at h56;have hil:(iL (bestO l)).length=l.length:=by rw[yxy];exact hbl
  generalize iL (bestO l)=B at h56 hil ⊢
  (repeat (first|refine zs rfl ?_|refine zg rfl rfl rfl ?_|refine zd ?_|refine j6 ?_|refine j5 ?_|refine zc rfl (h55) rfl rfl ?_|refine ze rfl (h55) rfl ?_|refine zk rfl rfl (fun _=>h55) rfl rfl ?_|refine zc rfl (h56) rfl rfl ?_|refine ze rfl (h56) rfl ?_|refine zk rfl rfl (fun _=>h56) rfl rfl ?_))
  refine q7 rfl (fun h=>absurd h (by decide)) (fun _=>?_);have hrep:(List.replicate ((B.length:Int)).toNat (Ty.dflt (.int .i64))).length=B.length:=by simp
  (repeat (first|refine zs rfl ?_|refine zg rfl rfl rfl ?_|refine j6 ?_|refine j5 ?_|refine zc rfl (h56) rfl rfl ?_|refine ze rfl (h56) rfl ?_|refine zk rfl rfl (fun _=>h56) rfl rfl ?_))
  (refine q9x [0] [5,8] rfl ?_)
  refine zK0 ?_;refine⟨.inl rfl,_,_,rfl,trivial,?_⟩;rfl
 ·have e1:bstI l=[]:=by unfold bstI;rw[if_neg hc]
  have e2:lstI l=0:=by unfold lstI;rw[if_neg hc]
  rw[e1,e2];rw[if_neg hc] at h55;generalize dayE l=z at hc h55 ⊢;refine zK13 ?_;refine q7 rfl (fun _=>?_) (fun h=>?_)
  ·refine zK0 ?_;refine⟨.inl rfl,_,_,rfl,trivial,?_⟩;rfl
  ·replace h:=zC h;omega
def kindE(l:List Sh)(one two:Int):Int:=if dayE l≠0 then dayE l else if (0≤one∧one<(l.length:Int))∧(0≤two∧two<(l.length:Int))∧one≠two then 0 else 2
def kindV(l:List Sh)(a b:Nat):Int:=if (bestsL l).all (befB a b)=true then 2 else if (bestsL l).any (befB a b)=true then 1 else 0
def kindI(l:List Sh)(one two:Int):Int:=if kindE l one two=0 then kindV l one.toNat two.toNat else 0
def kind_ok:kindE l one two=0↔dayE l=0∧(0≤one∧one<(l.length:Int))∧(0≤two∧two<(l.length:Int))∧one≠two:=by
 unfold kindE;split
 ·rename_i h;exact⟨fun h'=>absurd h' h,fun h'=>absurd h'.1 h⟩
 ·rename_i h;split
  ·rename_i h';exact⟨fun _=>⟨by omega,h'⟩,fun _=>rfl⟩
  ·rename_i h';exact⟨fun e=>by omega,fun e=>absurd e.2 h'⟩
def kind_cnt(a b:Nat):kindV l a b=if (((bestsL l).filter (befB a b)).length:Int)=0 then 0 else if (((bestsL l).filter (befB a b)).length:Int)=(bestsL l).length then 2 else 1:=by
 have hne:=bests_ne l;unfold kindV;generalize bestsL l=L at hne;have h1:L.all (befB a b)=true↔(L.filter (befB a b)).length=L.length:=by rw[List.length_filter_eq_length_iff,yy9]
 have h2:L.any (befB a b)=true↔¬ (L.filter (befB a b)).length=0:=by
  rw[List.length_eq_zero_iff,List.filter_eq_nil_iff,List.any_eq_true];constructor
  ·rintro⟨x,hx,h⟩ h';exact h' x hx h
  ·intro h;refine yxq fun hn=>h fun x hx hb=>hn ⟨x,hx,hb⟩
 have h3:L.length≠0:=fun e=>hne (List.length_eq_zero_iff.1 e);by_cases c1:(L.filter (befB a b)).length=0
 ·rw[if_neg (fun h=>by have:=h1.1 h;omega),if_neg (fun h=>h2.1 h c1),if_pos (by omega)]
 ·rw[if_neg (by omega:¬ ((L.filter (befB a b)).length:Int)=0)];by_cases c2:(L.filter (befB a b)).length=L.length
  ·rw[if_pos (h1.2 c2),if_pos (by omega)]
  ·rw[if_neg (fun h=>c2 (h1.1 h)),if_pos (h2.2 c1),if_neg (by omega)]
def countI(l:List Sh):Int:=if dayE l=0 then((bestsL l).length:Int) else 0
def fn36(l:List Sh):Ox.Fn Tryz.prog 36 (.acons (vD l) .anil) (·=vT2 (countI l) (dayE l)):=by
 refine Ox.Fn.intro xok Tryz.func36 rfl Tryz.call36 (yyc rfl) (fun E M0 up=>?_);refine z5 ?_;have h55:=fn51 l;unfold vOp at h55;by_cases hc:dayE l=0
 ·obtain⟨d1,d8,dl⟩:=q89 hc;rw[if_pos hc,hc] at h55;have h62:=fn78 l (prS l) (-1) (-1) dl d8 (by omega);rw[j32 dl (by decide)] at h62;have e1:countI l=((bestsL l).length:Nat):=by unfold countI;rw[if_pos hc]
  rw[e1,hc]
  (repeat (first|refine zs rfl ?_|refine zg rfl rfl rfl ?_|refine zd ?_|refine j6 ?_|refine j5 ?_|refine zc rfl (h55) rfl rfl ?_|refine ze rfl (h55) rfl ?_|refine zk rfl rfl (fun _=>h55) rfl rfl ?_|refine zc rfl (h62) rfl rfl ?_|refine ze rfl (h62) rfl ?_|refine zk rfl rfl (fun _=>h62) rfl rfl ?_))
  refine q7 rfl (fun h=>absurd h (by decide)) (fun _=>?_)
  (repeat (first|refine zs rfl ?_|refine zg rfl rfl rfl ?_|refine zd ?_|refine j6 ?_|refine j5 ?_|refine zc rfl (h62) rfl rfl ?_|refine ze rfl (h62) rfl ?_|refine zk rfl rfl (fun _=>h62) rfl rfl ?_))
  refine⟨.inl rfl,_,_,rfl,trivial,?_⟩;rfl
 ·have e1:countI l=0:=by unfold countI;rw[if_neg hc]
  rw[e1];rw[if_neg hc] at h55;generalize dayE l=z at hc h55 ⊢;refine zK13 ?_;refine q7 rfl (fun _=>?_) (fun h=>?_)
  ·refine zK0 ?_;refine⟨.inl rfl,_,_,rfl,trivial,?_⟩;rfl
  ·replace h:=zC h;omega
def fn35(l:List Sh)(one two:Int):Ox.Fn Tryz.prog 35 (.acons (vD l) (.acons (vI one) (.acons (vI two) .anil))) (·=vT2 (kindI l one two) (kindE l one two)):=by
 refine Ox.Fn.intro xok Tryz.func35 rfl Tryz.call35 (yyc rfl) (fun E M0 up=>?_);refine z5 ?_;have h55:=fn51 l;unfold vOp at h55;by_cases hc:dayE l=0
 ·obtain⟨d1,d8,dl⟩:=q89 hc;rw[if_pos hc,hc] at h55;have h52:=fn77 0 ((l.length:Int)-1) [one,two];have e52:decide (∀ x∈[one,two],0≤x∧x≤(l.length:Int)-1)=decide ((0≤one∧one<(l.length:Int))∧(0≤two∧two<(l.length:Int))):=decide_eq_decide.2 (by simp only[yyk,yxz,or_false,forall_eq_or_imp,forall_eq];omega)
  rw[e52] at h52
  (repeat (first|refine zs rfl ?_|refine zg rfl rfl rfl ?_|refine zd ?_|refine j6 ?_|refine j5 ?_|refine zc rfl (h55) rfl rfl ?_|refine ze rfl (h55) rfl ?_|refine zk rfl rfl (fun _=>h55) rfl rfl ?_|refine zc rfl (h52) rfl rfl ?_|refine ze rfl (h52) rfl ?_|refine zk rfl rfl (fun _=>h52) rfl rfl ?_))
  refine q7 rfl (fun h=>absurd h (by decide)) (fun _=>?_);refine zK22 ?_;refine q7 rfl (fun hd=>?_) (fun hd=>?_)
  ·have hno:¬ ((0≤one∧one<(l.length:Int))∧(0≤two∧two<(l.length:Int))∧one≠two):=by rintro⟨q1,q2,q3⟩;have hd2:(bif !decide ((0≤one∧one<(l.length:Int))∧0≤two∧two<(l.length:Int)) then true else one==two)=true:=hd;rw[decide_eq_true ⟨q1,q2⟩] at hd2;exact q3 (beq_iff_eq.1 hd2)
   have e2:kindE l one two=2:=by unfold kindE;rw[if_neg (by omega),if_neg hno]
   have e1:kindI l one two=0:=by unfold kindI;rw[if_neg (by rw[e2];decide)]
   rw[e1,e2];refine zK0 ?_;refine⟨.inl rfl,_,_,rfl,trivial,?_⟩;rfl
  ·have hyes:(0≤one∧one<(l.length:Int))∧(0≤two∧two<(l.length:Int))∧one≠two:=by
    have hd2:(bif !decide ((0≤one∧one<(l.length:Int))∧0≤two∧two<(l.length:Int)) then true else one==two)=false:=hd;by_cases q:(0≤one∧one<(l.length:Int))∧0≤two∧two<(l.length:Int)
    ·rw[decide_eq_true q] at hd2;exact⟨q.1,q.2,fun e=>by rw[e] at hd2;simp at hd2⟩
    ·rw[decide_eq_false q] at hd2;cases hd2
   have hz:kindE l one two=0:=kind_ok.2 ⟨hc,hyes⟩;have e1:kindI l one two=kindV l one.toNat two.toNat:=by unfold kindI;rw[if_pos hz]
   rw[e1,hz];have hA:=fn78 l (prS l) (-1) (-1) dl d8 (by omega);have hB:=fn78 l (prS l) one two dl d8 hyes.1.2;have eB:cntS l one two=(((bestsL l).filter (befB one.toNat two.toNat)).length:Nat):=by have:=cnt_bef dl one.toNat two.toNat;rw[show((one.toNat:Nat):Int)=one by omega,show((two.toNat:Nat):Int)=two by omega] at this;exact this
   rw[j32 dl (by decide)] at hA;rw[eB] at hB;rw[kind_cnt];generalize ((bestsL l).length:Nat)=nA at hA ⊢;generalize (((bestsL l).filter (befB one.toNat two.toNat)).length:Nat)=nB at hB ⊢
   (repeat (first|refine zs rfl ?_|refine zg rfl rfl rfl ?_|refine zd ?_|refine j6 ?_|refine j5 ?_|refine zc rfl (hA) rfl rfl ?_|refine ze rfl (hA) rfl ?_|refine zk rfl rfl (fun _=>hA) rfl rfl ?_|refine zc rfl (hB) rfl rfl ?_|refine ze rfl (hB) rfl ?_|refine zk rfl rfl (fun _=>hB) rfl rfl ?_))
   refine q7 rfl (fun he=>?_) (fun he=>?_)
   ·have he':(nB:Int)=0:=beq_iff_eq.1 he;rw[if_pos he'];refine zK0 ?_;refine⟨.inl rfl,_,_,rfl,trivial,?_⟩;rfl
   ·have he':¬ (nB:Int)=0:=beq_eq_false_iff_ne.1 he;rw[if_neg he'];refine zK0 ?_;refine q7 rfl (fun hf=>?_) (fun hf=>?_)
    ·have hf':(nB:Int)=(nA:Int):=beq_iff_eq.1 hf;rw[if_pos hf'];refine zK0 ?_;refine⟨.inl rfl,_,_,rfl,trivial,?_⟩;rfl
    ·have hf':¬ (nB:Int)=(nA:Int):=beq_eq_false_iff_ne.1 hf;rw[if_neg hf'];refine zK0 ?_;refine⟨.inl rfl,_,_,rfl,trivial,?_⟩;rfl
 ·have e2:kindE l one two=dayE l:=by unfold kindE;rw[if_pos hc]
  have e1:kindI l one two=0:=by unfold kindI;rw[if_neg (by rw[e2];exact hc)]
  rw[e1,e2];rw[if_neg hc] at h55;generalize dayE l=z at hc h55 ⊢;refine zK13 ?_;refine q7 rfl (fun _=>?_) (fun h=>?_)
  ·refine zK0 ?_;refine⟨.inl rfl,_,_,rfl,trivial,?_⟩;rfl
  ·replace h:=zC h;omega
abbrev vU(by_:List Int):AV:=.val (.slice (.int .u8)) by_
def kO(u:List Int)(n:Nat):Nat:=if u.length>0 then(u.getD (n % u.length) 0).toNat % (n+1) else n
def ordR(u:List Int):Nat→List Nat
 |0=>[]
 |n+1=>(ordR u n).take (kO u n)++[n]++(ordR u n).drop (kO u n)
def kO_le(u:List Int)(n:Nat):kO u n≤n:=by
 unfold kO;split
 ·have:=Nat.mod_lt (u.getD (n % u.length) 0).toNat (show 0<n+1 by omega);omega
 ·exact yyn n
def ordR_perm(u:List Int):∀ n,List.Perm (ordR u n) (List.range n)
 |0=>.nil
 |n+1=>by rw[ordR,List.range_succ,yxb,List.singleton_append];have h:=ordR_perm u n;have h2:List.Perm ((ordR u n).take (kO u n)++n::(ordR u n).drop (kO u n)) (n::((ordR u n).take (kO u n)++(ordR u n).drop (kO u n))):=List.perm_middle;rw[List.take_append_drop] at h2;refine h2.trans ?_;refine(h.cons n).trans ?_;have:=List.perm_append_comm (l₁:=[n]) (l₂:=List.range n);exact this
def ordR_len(u:List Int)(n:Nat):(ordR u n).length=n:=by rw[(ordR_perm u n).length_eq,List.length_range]
def ordR_lvl(u:List Int)(N:Nat):ordR u N∈lvl N N:=lvl_of_perm (ordR_perm u N)
def ordR_ord(u:List Int)(N:Nat):Ord N (iL (ordR u N)):=by obtain⟨h1,h2,h3⟩:=mem_lvl.1 (ordR_lvl u N);exact ord_of h1 h3 h2
def fn23(l:List Sh)(u:List Int)(h8:l.length≤1000)(hu:∀ x∈u,0≤x∧x≤255)(hul:u.length≤1000):Ox.Fn Tryz.prog 23 (.acons (vD l) (.acons (vU u) .anil)) (·=vL (iL (ordR u l.length))):=by
 refine Ox.Fn.intro xok Tryz.func23 rfl Tryz.call23 (yyc rfl) (fun E M0 up=>?_);refine z5 ?_;refine zK0 ?_;refine JK.ghost 5 3 (.int .i64) rfl ?_;refine JK.loop (fun i:Nat=>⟨[(0,vD l),(1,vU u),(5,.lf (.osl 0)),(6,vI (i:Int))],[(0,.sl 3 (.int .i64) (iL (ordR u i)))],1⟩)
  (fun i=>i≤l.length) (fun i=>l.length-i) 0 (yy7 _) (by exact zJ) fun i hi=>?_
 have hlen:=ordR_len u i;have hil:(iL (ordR u i)).length=i:=by rw[yxy];exact hlen
 have hk:=kO_le u i;have hst:iL (ordR u (i+1))=(iL (ordR u i)).take (kO u i)++[(i:Int)]++(iL (ordR u i)).drop (kO u i):=by rw[ordR];simp
 have hkv:kO u i=if u.length>0 then(u.getD (i % u.length) 0).toNat % (i+1) else i:=rfl;have hfin:i=l.length→iL (ordR u i)=iL (ordR u l.length):=fun e=>by rw[e]
 clear hlen;generalize iL (ordR u i)=X at hil hst hfin ⊢;refine zK0 ?_;refine q7 rfl (fun hc=>?_) (fun hc=>?_)
 ·replace hc:=zC hc
  (refine q9x [0] [0,1,5,6] rfl ?_)
  (repeat (first|refine zu rfl ?_|refine zg rfl rfl rfl ?_|refine zd ?_|refine j6 ?_|refine j5 ?_))
  refine JK.cut (fun _:Unit=>⟨[(0,vD l),(1,vU u),(5,vL X),(6,vI (i:Int)),(7,vI (kO u i:Nat))],[],1⟩) (fun _=>True) ?_ (fun _ _=>?_)
  ·refine zK0 ?_;refine q7 rfl (fun hd=>?_) (fun hd=>?_)
   ·replace hd:=zC hd;have hmc:(i:Int) % (u.length:Int)=((i % u.length:Nat):Int):=by push_cast;rfl
    have hml:=Nat.mod_lt i (show 0<u.length by omega);have hm1:0≤(i:Int) % (u.length:Int)∧(i:Int) % (u.length:Int)<(u.length:Int):=by rw[hmc];omega
    have hm2:0≤u.getD ((i:Int) % (u.length:Int)).toNat 0∧u.getD ((i:Int) % (u.length:Int)).toNat 0≤255:=hu _ (by rw[z9 u (by rw[hmc,Int.toNat_natCast];exact hml)];exact yyv _);rw[if_pos (by omega)] at hkv;have hx1:(X.length:Int)+1≠0:=by omega
    have hkI:((kO u i:Nat):Int)=u.getD ((i:Int) % (u.length:Int)).toNat 0 % ((X.length:Int)+1):=by
     rw[hkv,hil,hmc,Int.toNat_natCast];rw[hmc,Int.toNat_natCast] at hm2
     push_cast
     rw[Int.toNat_of_nonneg hm2.1]
    rw[hkI];refine zK0 ?_;exact⟨(),by exact zJ,trivial⟩
   ·replace hd:=zC hd;rw[if_neg (by omega)] at hkv;refine zK0 ?_;refine⟨(),?_,trivial⟩;rw[hkv,← hil];exact zJ
  ·have hb1:(List.take (kO u i) X).length≤1000:=by rw[yy3];omega
   have hb2:(List.drop (kO u i) X).length≤1000:=by rw[List.length_drop];omega
   have hb3:(List.take (kO u i) X++[(i:Int)]).length≤1001:=by rw[yyw];simp;omega
   have hb4:(List.take (kO u i) X++[(i:Int)]++List.drop (kO u i) X).length≤2001:=by rw[yyw];omega
   refine zK0 ?_;refine⟨i+1,?_,by omega,by omega⟩;rw[hst];exact zJ
 ·replace hc:=zC hc;rw[hfin (by omega)] at *;refine zK0 ?_;refine⟨.inl rfl,_,_,rfl,trivial,?_⟩;rfl
end Go.Proofs.YtjmhhehhfeengaaGreatDoor.Pr
namespace Ox.Sh
def q4t{l:List Sh}(hl:okD l):∀ (o:List Nat) (p:Int×Int) (c:Int),(0≤p.1∧p.1≤c)→(0≤p.2∧p.2≤c)→0≤(endP l p o).2∧(endP l p o).2≤c+3000*o.length
 |[],p,c,_,h2=>by simp[endP];exact h2
 |n::o,p,c,h1,h2=>by
  obtain⟨k1,k2,k3,k4,k5,k6⟩:=hl.get n;have ih:=q4t hl o (nx l p n) (c+3000) (by
   show 0≤p.1+da (l.getD n z0)∧p.1+da (l.getD n z0)≤c+3000;omega) (by
   show 0≤Max.max (p.1+da (l.getD n z0)+dr (l.getD n z0)) p.2+dp (l.getD n z0)∧Max.max (p.1+da (l.getD n z0)+dr (l.getD n z0)) p.2+dp (l.getD n z0)≤c+3000;omega)
  rw[q0k];simp only[List.length_cons];omega
def j3n{l:List Sh}(hl:okD l)(o:List Nat)(h:o.length≤100):0≤endS l (0,0) o∧endS l (0,0) o≤1000000:=by have:=q4t hl o (0,0) 0 (by simp) (by simp);unfold endS;omega
def day_ends{O:Nat→List Nat}(hO:∀ N,(O N).Perm (List.range N)){LE:List Int→Int}{xs ys:List Int}(hl:xs.length=ys.length)(h:∀ n,n<xs.length→ys.getD n 0≤xs.getD n 0)
  (hx:(∃ o:List Nat,o.Perm (List.range xs.length)∧endS (dayL xs mo) (0,0) o=LE xs)∧∀ o:List Nat,o.Perm (List.range xs.length)→LE xs≤endS (dayL xs mo) (0,0) o)
  (hy:(∃ o:List Nat,o.Perm (List.range ys.length)∧endS (dayL ys mo) (0,0) o=LE ys)∧∀ o:List Nat,o.Perm (List.range ys.length)→LE ys≤endS (dayL ys mo) (0,0) o) :
  (endS (dayL ys mo) (0,0) (O ys.length)≤endS (dayL xs mo) (0,0) (O xs.length)∧endS (dayL xs mo) (0,0) (O xs.length)≤endS (dayL ys mo) (0,0) (O ys.length)+sm (gapL xs ys) (List.range xs.length)) ∧
   LE ys≤LE xs∧LE xs≤LE ys+sm (gapL xs ys) (List.range xs.length):=by
 have hd:=day_lip (mo:=mo) hl h;rw[← hl] at hy ⊢;have e:=z14 hd (O xs.length);rw[j21 (hO _)] at e;exact⟨e,best_lip hd (O:=fun o=>o.Perm (List.range xs.length)) (fun o ho=>j21 ho) hx.1 hx.2 hy.1 hy.2⟩
end Ox.Sh
namespace Go.Proofs.YtjmhhehhfeengaaGreatDoor
open Go Go.RowKit Ox Ox.Sh Ox.Se Ox.Rn
variable{l:List Pt}
def pk_nn(hz:seE P l=0):0≤pkV P l:=by obtain⟨hP,h1,h8,hl⟩:=q4l.1 hz;exact(ov_bd hP.1 hl _).1
def either(hz:seE P l=0):((cmpL P l 0).length=l.length→leR P l=pkV P l)∧((cmpL P l 0).length≠l.length→leR P l=pkV P l+1):=by
 obtain⟨hP,h1,h8,hl⟩:=q4l.1 hz;have hne:l≠[]:=fun e=>by rw[e] at h1;simp at h1
 have hf:=q41 (l:=l) hP.1;have a:pkV P l≤leR P l:=leR_ge hP.1 hne _;have b:leR P l≤pkV P l+1:=j2j hP.1 hne hf;have c:leR P l=pkV P l↔(cmpL P l 0).length=l.length:=by rw[j33 h8 (by omega),← j2x hP.1 hl h1];exact leR_held hP.1 hne hf
 exact⟨c.2,fun h=>by have:leR P l≠pkV P l:=fun e=>h (c.1 e);omega⟩
def seamK:SeamK (fun z=>seE z.1 z.2.1) (fun z=>lstI z.1 z.2.1) (fun z=>pkI z.1 z.2.1) (fun z=>paI z.1 z.2.1) (fun z=>apE z.1 z.2.1) (fun z=>bstI z.1 z.2.1) (fun z=>apI z.1 z.2.1) where
 c5:=fun z=>fn5 z.1 z.2.1
 c6:=fun z=>fn6 z.1 z.2.1
 c7:=fun z=>fn7 z.1 z.2.1
 c8:=fun z=>fn8 z.1 z.2.1
 fact:=fun z hz=>by
  generalize z.1=P at hz ⊢;generalize z.2.1=l at hz ⊢;have h0:=pk_nn hz;obtain⟨a,b⟩:=either hz;have e1:lstI P l=leR P l:=if_pos hz;have e2:pkI P l=pkV P l:=if_pos hz;have e3:apE P l=if (cmpL P l 0).length=l.length then 5 else 0:=if_neg (by rw[hz];simp);rw[e1,e2,e3];refine⟨h0,?_⟩;by_cases h:(cmpL P l 0).length=l.length
  ·exact Or.inr ⟨if_pos h,a h⟩
  ·exact Or.inl ⟨if_neg h,b h⟩
def EN(mo:List (List Int))(u:List Int)(xs:List Int):Int:=endS (dayL xs mo) (0,0) (Pr.ordR u xs.length)
def LE(mo:List (List Int))(xs:List Int):Int:=Pr.leS (dayL xs mo)
def mo_bd(hmo:∀ m∈mo,∀ y∈m,0≤y∧y≤255)(n:Nat):0≤(mo.getD n []).getD 0 0∧(mo.getD n []).getD 0 0≤255∧0≤(mo.getD n []).getD 1 0∧(mo.getD n []).getD 1 0≤255:=by
 have hb:∀ j,0≤(mo.getD n []).getD j 0∧(mo.getD n []).getD j 0≤255:=fun j=>by
  by_cases hn:n<mo.length
  ·by_cases hj:j<(mo.getD n []).length
   ·rw[gD _ hj];exact hmo (mo.getD n []) (by rw[gD mo hn];exact yyv hn) _ (yyv hj)
   ·rw[yyj,yxe (by omega)];exact⟨Int.le_refl _,by decide⟩
  ·have:mo.getD n []=[]:=by rw[yyj,yxe (by omega)];rfl
   rw[this];simp
 exact⟨(hb 0).1,(hb 0).2,(hb 1).1,(hb 1).2⟩
section
variable {mo:List (List Int)}{u:List Int}(hmo:∀ m∈mo,∀ y∈m,0≤y∧y≤255)
include hmo
theorem z5w(hx:bdL xs):okD (dayL xs mo):=dayL_ok hx (mo_bd hmo)
theorem z5g(hx:bdL xs):(∃ o:List Nat,o.Perm (List.range xs.length)∧endS (dayL xs mo) (0,0) o=LE mo xs)∧∀ o:List Nat,o.Perm (List.range xs.length)→LE mo xs≤endS (dayL xs mo) (0,0) o:=by
 have hl:=q7w xs mo;refine⟨⟨Pr.ruleL (dayL xs mo),?_,rfl⟩,fun o ho=>?_⟩
 ·have:=Pr.lvl_perm (Pr.rule_in (dayL xs mo));rwa[hl] at this
 ·exact Pr.le_all (z5w hmo hx) (Pr.lvl_of_perm (by rw[hl];exact ho))
theorem hE_of(hu:∀ x∈u,0≤x∧x≤255)(h30:u.length≤30)(xs:List Int)(h1:1≤xs.length)(h5:xs.length≤5)(hm:mo.length=xs.length)(hx:bdL xs) :
  Ox.Fn Tryz.prog 9 (.acons (vDay (dayL xs mo)) (.acons (vU' u) .anil)) (·=vTnm (EN mo u xs) (LE mo xs) true):=by
 have hl:=q7w xs mo;have ho:=z5w hmo hx;have hd:Pr.dayE (dayL xs mo)=0:=Pr.day_of (by omega) (by omega) ho;have hs:=(z5g hmo hx).2 (Pr.ordR u xs.length) (Pr.ordR_perm u _);have p1:Pr.playE (dayL xs mo) (Pr.iL (Pr.ordR u xs.length))=0:=Pr.play_ok.2 ⟨hd,by rw[hl];exact Pr.ordR_ord u _⟩;have hb:=Pr.mem_bests.1 (Pr.best_in ho);obtain⟨b1,b2,b3⟩:=Pr.mem_lvl.1 hb.1;have p2:Pr.playE (dayL xs mo) (Pr.iL (Pr.bestO (dayL xs mo)))=0:=Pr.play_ok.2 ⟨hd,Pr.ord_of b1 b3 b2⟩;have c21:=Pr.fn21 (dayL xs mo);have c23:=Pr.fn23 (dayL xs mo) u (by omega) hu (by omega);have c22:=Pr.fn22 (dayL xs mo) (Pr.iL (Pr.ordR u xs.length));have c24:=Pr.fn24 (dayL xs mo);have c25:=Pr.fn25 (dayL xs mo) (Pr.iL (Pr.bestO (dayL xs mo)));rw[hl] at c23;rw[p1,show Pr.endR (dayL xs mo) (Pr.iL (Pr.ordR u xs.length))=EN mo u xs by unfold Pr.endR;rw[if_pos p1,Pr.nat_iL];rfl] at c22;rw[p2,show Pr.endR (dayL xs mo) (Pr.iL (Pr.bestO (dayL xs mo)))=LE mo xs by unfold Pr.endR;rw[if_pos p2,Pr.nat_iL];exact hb.2] at c25;rw[hd,show Pr.bstI (dayL xs mo)=Pr.iL (Pr.bestO (dayL xs mo)) from if_pos hd,show Pr.lstI (dayL xs mo)=LE mo xs from if_pos hd] at c24;exact fn9 hd c21 c23 c22 c24 c25 hs
theorem hB_of(xs:List Int)(h5:xs.length≤5)(hx:bdL xs):(0≤EN mo u xs∧EN mo u xs≤1000000)∧0≤LE mo xs∧LE mo xs≤1000000:=by have ho:=z5w hmo hx;have hl:=q7w xs mo;exact⟨j3n ho _ (by rw[Pr.ordR_len];omega),j3n ho _ (by rw[Pr.rule_len];omega)⟩
theorem hF_of(xs ys:List Int)(hl:xs.length=ys.length)(hx:bdL xs)(hy:bdL ys)(h:leL ys xs) :
  (EN mo u ys≤EN mo u xs∧EN mo u xs≤EN mo u ys+gapS xs ys)∧LE mo ys≤LE mo xs∧LE mo xs≤LE mo ys+gapS xs ys:=
 day_ends (O:=Pr.ordR u) (fun N=>Pr.ordR_perm u N) (LE:=LE mo) hl h (z5g hmo hx) (z5g hmo hy)
end
end Go.Proofs.YtjmhhehhfeengaaGreatDoor
namespace Ox
open Go Go.RowKit
variable {X:Ctx}{s:S}{M:Mem}{ρ:Env}{a:Act}{w:World}{QA:Exit→S→Prop}{all l:List Oper}
def z2o{os:Array Operand}{ts:Array TypeId}{args r:AV}{d:Nat}{ps:String}{af:Array Edge}
  (hf:Fn X.P f args (·=.tup r)) (hr:r.scalL=true) (hd:ltB d X.n=true) (hb:args.bd 0)
  (ha:∀ M ρ a w,SAT X M ρ s w→REG X M ρ s a→args.rvs (fun b=>w.heap[b]?) ρ (os.toList.map a.eval))
  (k:JL X true all QA l (putS (some d) (.tup r) s)) :
  JL X true all QA (⟨some d,.call ⟨.value (.func f),os,ts⟩,ty,ps,af,none⟩::l) s:=by
 intro M ρ a w h1 h2;have hmap:Array.map a.eval os=(List.map a.eval os.toList).toArray:=by rw[← yxk]
 have k3:a.eval (.func f)=.func (.func f) #[] #[]:=rfl;have hrun:∀ w',(execOp a.eval ⟨some d,.call ⟨.value (.func f),os,ts⟩,ty,ps,af,none⟩).run X.P w'=(callFunc f (os.toList.map a.eval).toArray).run X.P w':=fun w'=>by simp only[execOp,resolve,k3,Deferred.ofValue,yye,yyf,yyb,invoke,hmap];simp
 have e2:Calls X.P f (os.toList.map a.eval).toArray w (fun e w'=>e=.returned (AV.tup r).toV∧Below w.heap.size w w'):=by refine(hf.run _ ρ w _ (q7k (Below.refl _ _)) (ha M ρ a w h1 h2) hb).mono ?_;rintro e w' ⟨v,r',M',rfl,rfl,_,hv,hbl,_⟩;exact⟨by rw[(x6 (r:=.tup r) hr).1 hv],hbl⟩
 refine j7 (w6 rfl) (m5 rfl (by rw[hrun,hf.call]) e2 ?_);rintro e w' ⟨rfl,hbl⟩;exact⟨_,rfl,k M ρ _ w' (j9 (h1.later hbl)) (h2.putO (dstOk.spec (d:=some d) (y6 hd)) (w5 (yy7 _) (q4a (a:=.tup r) hr)) ((x6 (r:=.tup r) hr).2 rfl))⟩
def take3{L:List α}{x y z:α}(hx:L[k]?=some x)(hy:L[k+1]?=some y)(hz:L[k+2]?=some z):(L.drop k).take 3=[x,y,z]:=by obtain⟨h0,rfl⟩:=yxc.1 hx;obtain⟨h1,rfl⟩:=yxc.1 hy;obtain⟨h2,rfl⟩:=yxc.1 hz;rw[yy8 h0,yy8 h1,yy8 h2];rfl
def z4t(h1:SAT X M ρ s w){lb:Nat}{c:Nat→RV}{l:List Sh.Sh}(hn:l.length=n)(hl:lk s.H lb=some (.raw ty (some 3) (n*3) c))
  (hc:∀ i,i<n→c (i*3)=.i .i64 (l.getD i Sh.z0).1∧c (i*3+1)=.i .i64 (l.getD i Sh.z0).2.1∧c (i*3+2)=.i .i64 (l.getD i Sh.z0).2.2.1) :
  (AV.val (.slice (.cons (.int .i64) (.cons (.int .i64) (.cons (.int .i64) .nil)))) l).rv (fun b=>w.heap[b]?) ρ ((RV.o lb 3 0 n false 0).cv ρ):=by
 subst hn;obtain⟨_,_,_,cs,hh,_,hcs,m,cap,hsv,e1,_,e3,e4⟩:=h1.own lb _ hl;have hm:m=l.length:=by omega
 subst hm;have hv:(RV.o lb 3 0 l.length false 0).cv ρ=.slice (some ⟨ρ.blk lb,0,none⟩) l.length cap:=by simp[RV.cv,hsv,Value.capN]
 rw[hv];refine⟨[.slice (some ⟨ρ.blk lb,0,none⟩) l.length cap],?_,rfl⟩;simp only[Rep];refine⟨_,_,rfl,e3,e4,(fun h=>by cases h),.inr ⟨_,_,cs,ty,(0,0),rfl,hh,fun i hi=>?_⟩⟩;obtain⟨c0,c1,c2⟩:=hc i hi;have k0:=(hcs (i*3) (by omega)).1;have k1:=(hcs (i*3+1) (by omega)).1;have k2:=(hcs (i*3+2) (by omega)).1;rw[c0,← yxs] at k0;rw[c1,← yxs] at k1;rw[c2,← yxs] at k2;have hg:l.getD i Sh.z0=l.get ⟨i,hi⟩:=by simp[yyj,yyo hi]
 rw[hg] at k0 k1 k2;have e:(cs.toList.drop (0+i*Ty.size (.cons (.int .i64) (.cons (.int .i64) (.cons (.int .i64) .nil))))).take (Ty.size (.cons (.int .i64) (.cons (.int .i64) (.cons (.int .i64) .nil))))=[(RV.i .i64 (l.get ⟨i,hi⟩).1).cv ρ,(RV.i .i64 (l.get ⟨i,hi⟩).2.1).cv ρ,(RV.i .i64 (l.get ⟨i,hi⟩).2.2.1).cv ρ]:=by show(cs.toList.drop (0+i*3)).take 3=_;rw[yxw];exact take3 k0 k1 k2
 rw[e];exact⟨[_],[_,_],rfl,rfl,[_],[_],rfl,rfl,[_],[],rfl,rfl,rfl⟩
namespace Rn
noncomputable section
variable {P:Program}{g:Nat}{l':Lit}
def fullL(l:Lit):S:=⟨l.r.map fun p=>(p.1,AV.raw p.2),mapH ⟨mkG l.h,[]⟩,l.nx⟩
def regB(g:Nat)(l:Lit):Bool:=l.r.all fun p=>bAnd (((⟨g,0,[],.e,mkT l.r⟩:Rg).get p.1).eqb p.2) (Bool.not (isNl p.2))
def smB(l:Lit):Bool:=l.r.all fun p=>Nat.blt p.1 256
def j19{d:Nat}{v:AV}:∀ {l:List (Nat×RV)},lk (l.map fun p=>(p.1,AV.raw p.2)) d=some v→∃ x,(d,x)∈l∧v=.raw x
 |[],h=>by cases h
 |p::r,h=>by
  rw[yy4,lk] at h;by_cases e:p.1=d
  ·rw[if_pos e] at h;injection h with h
   exact⟨p.2,by rw[← e];exact yyg,h.symm⟩
  ·rw[if_neg e] at h;obtain⟨x,h1,h2⟩:=j19 h;exact⟨x,yyh _ h1,h2⟩
def mkT_lk{d:Nat}{v:RV}:∀ {l:List (Nat×RV)},(∀ p∈l,p.1<256)→(mkT l).get d=v→isNl v=false→lk (l.map fun p=>(p.1,AV.raw p.2)) d=some (.raw v)
 |[],_,h,hn=>by subst h;rw[show mkT []=.e from rfl,z7l] at hn;cases hn
 |p::r,hs,h,hn=>by
  have e:mkT (p::r)=(pt p.1).out p.2 (mkT r):=rfl;rw[e,z0a] at h;rw[yy4,lk];by_cases hp:p.1=d
  ·rw[if_pos ⟨hp,hs p yyg⟩] at h;rw[if_pos hp,h]
  ·rw[if_neg fun k=>hp k.1] at h;rw[if_neg hp];exact mkT_lk (fun q hq=>hs q (yyh _ hq)) h hn
def full_of{l:Lit}(h:regB g l=true):JW X (fullL l) (st g (mkT l.r) ⟨mkG l.h,[]⟩ l.nx).toS:=q71 (s:=(st g (mkT l.r) ⟨mkG l.h,[]⟩ l.nx).toS) rfl rfl fun d v hd=>by obtain⟨x,h1,rfl⟩:=j19 hd;obtain⟨k1,k2⟩:=v4.1 (yy9.1 h _ h1);exact u0 (u3 k1) (by cases e:isNl x<;>rw[e] at k2<;>first|rfl|cases k2)
def to_full{l:Lit}(h:smB l=true):JW X (st g (mkT l.r) ⟨mkG l.h,[]⟩ l.nx).toS (fullL l):=q71 (s:=fullL l) rfl rfl fun d v hd=>by obtain⟨e1,e2⟩:=u6 (t:=⟨g,0,[],.e,mkT l.r⟩) hd;obtain⟨q1,q2,q3⟩:=q91 e2;rw[q3] at e1 e2;rw[e1];exact mkT_lk (fun p hp=>by simpa using yy9.1 h p hp) rfl e2
def q9i{l l':Lit}{fn:Func}{c0 a y:Code}(hE:enR P f=some (fn,c0))(hd:dropL k c0=some (.seq a y))(hg:regB (lv (rsM fn.results.toList) (.seq a y) (rsM fn.results.toList) []) l=true)(hs:smB l'=true)
  (h:∀ X,Mt P fn.ntmps 0 none X→JC X a (fun e s=>e=.normal∧JW X (fullL l') s) (fullL l)) (hr:RestF P f (k+1) l'):RestF P f k l:=⟨fun fn' c0' c hE' hc=>⟨fun X hm=>by
 rw[hE] at hE';injection hE' with hE'
 injection hE' with h1 h2
 subst h1;subst h2;rw[hd] at hc;injection hc with hc
 subst hc;refine n9 (full_of hg) (z0s (JC.mono (h X hm) fun e s hq=>?_));obtain⟨rfl,hw⟩:=hq;exact n9 ((to_full hs).trans hw) ((hr.ok _ _ y hE (q31 hd rfl)).ok X hm)⟩⟩
def okE(L:List (Nat×AV))(p:Nat×RV):Bool:=
 match lk L p.1 with
 |some (.raw x)=>x.eqb p.2
 |some (.val (.int k) n)=>(RV.i k n).eqb p.2
 |_=>false
def z5n{l:Lit}{L:List (Nat×AV)}{H:List (Nat×HO)}{nx:Nat}(hH:mapH ⟨mkG l.h,[]⟩=H)(hn:l.nx=nx)(h:l.r.all (okE L)=true):JW X (fullL l) ⟨L,H,nx⟩:=fun M ρ a w h1 h2=>by
 subst hH;subst hn;refine⟨ρ,h1.sub (fun _ _ h=>h) (yyn _),⟨h2.size,h2.defers,fun d v hd=>?_⟩⟩;obtain⟨x,hx,rfl⟩:=j19 hd;have hk:=yy9.1 h _ hx;unfold okE at hk;split at hk
 ·rename_i y hy;have e:y=x:=u3 hk;subst e;exact h2.reg d _ hy
 ·rename_i k n hy;have e:RV.i k n=x:=u3 hk;subst e;exact⟨trivial,v8.1 (h2.reg d _ hy).2⟩
 ·cases hk
end
end Rn
end Ox
