/- Texts of the proof of the statement that the last text proves. -/
import Derived.Test.YtjfafggkkjgpeaaGreatDoorPkf
import Derived.ProofKit
import Derived.OpenShut
import Derived.Carry
import Derived.JoinedOf
import Derived.FnData
import GoSem.ClaimJoined
set_option linter.all false
set_option maxHeartbeats 2000000
namespace Go.Proofs.YtjfafggkkjgpeaaGreatDoor
open Go Go.RowKit Ox Ox.Sh Ox.Se
attribute [local irreducible] JC JL JK JW
attribute [local irreducible] ovA stA pkV
def clK(P:Int)(l:List Pt)(T:Nat→Option WD):Nat→Int×Int×Int
 |0=>(-1,0,0)
 |k+1=>match T k with
  |none=>clK P l T k
  |some w=>if (clK P l T k).1<0∨w.1+gp P l k 0<(clK P l T k).2.1 then((k:Int),w.1+gp P l k 0,w.2.1) else if w.1+gp P l k 0=(clK P l T k).2.1 then((clK P l T k).1,(clK P l T k).2.1,(clK P l T k).2.2+w.2.1) else clK P l T k
theorem clK_bd{P:Int}{l:List Pt}{T:Nat→Option WD}(hb:∀ k w,T k=some w→wB 8 16777216 w):∀ k,0≤(clK P l T k).2.2∧(clK P l T k).2.2≤16777216*k
 |0=>⟨Int.le_refl _,Int.le_refl _⟩
 |k+1=>by
  obtain⟨h1,h2⟩:=clK_bd (P:=P) (l:=l) hb k
  rw[clK]
  split
  ·push_cast;omega
  ·rename_i w hw
   obtain⟨_,⟨b1,b2⟩,_⟩:=hb k w hw
   split
   ·dsimp only;push_cast;omega
   ·split
    ·dsimp only;push_cast;omega
    ·push_cast;omega
set_option maxHeartbeats 8000000 in
theorem z03{P:Int}{l:List Pt}(hz:seE P l=0){T:Tb}(hb:∀ k w,T (2 ^ l.length-1) k=some w→wB 8 16777216 w){es:List EnW}{clk:Nat}(htg:TG es clk T)
  {E:World} {M0 M1:Mem} {n:Nat} {up up1:Nat→Nat→Value} {rg:Nat} {R:AV→List (Nat×AV)→List (Nat×HO)→Nat→Prop}
  (hR:R (.tup (.acons (vI (clK P l (T (2 ^ l.length-1)) l.length).1) (.acons (vI (clK P l (T (2 ^ l.length-1)) l.length).2.2) .anil))) [(rg,.lf (.mp 1)),(0,vH P l)] [(1,.map kyT wyT es clk)] 3) :
  JK (Ctx.sub ⟨Tryz.prog,tys,ets,mts,E,M0,n,none,up,0⟩ M1 Tryz.f73.ntmps none up1) [.code (Tryz.f73.body.getD .skip)]
   (inlQ ⟨Tryz.prog,tys,ets,mts,E,M0,n,none,up,0⟩ Tryz.f73.results.toList R) ⟨[(0,vH P l),(1,.lf (.mp 1))],[(2,.fr 0 [(rg,.lf (.mp 1)),(0,vH P l)]),(1,.map kyT wyT es clk)],3⟩:=by
 obtain⟨hP,h1,h8,hl⟩:=q1h.1 hz
 refine z96 (fn:=Tryz.f73) rfl ?_
 have c77:=fn37 P l h8
 (repeat (first|refine zs rfl ?_|refine zg rfl rfl rfl ?_|refine zd ?_|refine q8 ?_|refine q7 ?_|refine zmo mpW rfl rfl rfl rfl ?_|refine zmi mpW rfl rfl rfl rfl ?_|refine zmu mpW rfl rfl rfl rfl ?_|refine zmd mpW rfl rfl rfl ?_|refine zmm mpW rfl ?_|refine zne eqK rfl rfl rfl ?_))
 refine JK.loop (fun k:Nat=>⟨[(0,vH P l),(1,.lf (.mp 1)),(6,vI (clK P l (T (2 ^ l.length-1)) k).1),(7,vI (clK P l (T (2 ^ l.length-1)) k).2.1),(8,vI (clK P l (T (2 ^ l.length-1)) k).2.2),(18,vI l.length),(19,vI (k:Int))],[(2,.fr 0 [(rg,.lf (.mp 1)),(0,vH P l)]),(1,.map kyT wyT es clk)],3⟩)
  (fun k=>k≤l.length) (fun k=>l.length-k) 0 (Nat.zero_le _) (by(exact z6 (by conv=>lhs;reduce))) fun k hk=>?_
 have hfin:k=l.length→clK P l (T (2 ^ l.length-1)) k=clK P l (T (2 ^ l.length-1)) l.length:=fun e=>by rw[e]
 have hcb:=clK_bd (P:=P) (l:=l) hb k
 have hks:clK P l (T (2 ^ l.length-1)) (k+1)=match T (2 ^ l.length-1) k with
  |none=>clK P l (T (2 ^ l.length-1)) k
  |some w=>if (clK P l (T (2 ^ l.length-1)) k).1<0∨w.1+gp P l k 0<(clK P l (T (2 ^ l.length-1)) k).2.1 then((k:Int),w.1+gp P l k 0,w.2.1) else if w.1+gp P l k 0=(clK P l (T (2 ^ l.length-1)) k).2.1 then((clK P l (T (2 ^ l.length-1)) k).1,(clK P l (T (2 ^ l.length-1)) k).2.1,(clK P l (T (2 ^ l.length-1)) k).2.2+w.2.1) else clK P l (T (2 ^ l.length-1)) k:=rfl
 generalize clK P l (T (2 ^ l.length-1)) k=c at hks hcb hfin ⊢
 obtain⟨c1,c2,c3⟩:=c
 dsimp only at hks hcb ⊢
 (repeat (first|refine zs rfl ?_|refine zg rfl rfl rfl ?_|refine zd ?_|refine q8 ?_|refine q7 ?_|refine zmo mpW rfl rfl rfl rfl ?_|refine zmi mpW rfl rfl rfl rfl ?_|refine zmu mpW rfl rfl rfl rfl ?_|refine zmd mpW rfl rfl rfl ?_|refine zmm mpW rfl ?_|refine zne eqK rfl rfl rfl ?_))
 refine z5 rfl (fun hc=>?_) (fun hc=>?_)
 ·(simp only[↓cdL] at hc;try simp only[Ty.dflt,Int.toNat_natCast] at hc)
  have hk':k<l.length:=by omega
  have c65:=fn26 P l k 0 hP hl hk' (by omega)
  have hgb:=q7l (l:=l) hP.1 k 0
  generalize gp P l k 0=g at c65 hgb hks
  have hb1:=hb k
  have htn:=fun e=>htg.none (q:=2 ^ l.length-1) (m:=k) e
  have hts:=fun w e=>htg.some (q:=2 ^ l.length-1) (m:=k) (w:=w) e
  generalize T (2 ^ l.length-1) k=o at hks hb1 htn hts
  have hal:2 ^ l.length-1≤256:=by
   have:2 ^ l.length≤256:=Nat.pow_le_pow_right (n:=2) (by omega) h8
   omega
  generalize 2 ^ l.length-1=A at c77 htn hts hal hks ⊢
  (repeat (first|refine zs rfl ?_|refine zg rfl rfl rfl ?_|refine zd ?_|refine q8 ?_|refine q7 ?_|refine zmo mpW rfl rfl rfl rfl ?_|refine zmi mpW rfl rfl rfl rfl ?_|refine zmu mpW rfl rfl rfl rfl ?_|refine zmd mpW rfl rfl rfl ?_|refine zmm mpW rfl ?_|refine zne eqK rfl rfl rfl ?_|refine zc rfl (c77) rfl rfl ?_|refine ze rfl (c77) rfl ?_|refine zk rfl rfl (fun _=>c77) rfl rfl ?_))
  cases o with
  |none=>
   have hh:=htn rfl
   rw[hh]
   refine z5 rfl (fun _=>?_) (fun h=>by cases h)
   (repeat (first|refine zs rfl ?_|refine zg rfl rfl rfl ?_|refine zd ?_|refine q8 ?_|refine q7 ?_|refine zmo mpW rfl rfl rfl rfl ?_|refine zmi mpW rfl rfl rfl rfl ?_|refine zmu mpW rfl rfl rfl rfl ?_|refine zmd mpW rfl rfl rfl ?_|refine zmm mpW rfl ?_|refine zne eqK rfl rfl rfl ?_))
   refine⟨k+1,?_,by omega,by omega⟩
   rw[hks]
   (exact z6 (by conv=>lhs;reduce))
  |some w=>
   obtain⟨hh,hg2⟩:=hts w rfl
   obtain⟨⟨d1,d2⟩,⟨d3,d4⟩,d5,d6⟩:=hb1 w rfl
   rw[hh,hg2]
   obtain⟨w1,w2,w3,⟨⟩⟩:=w
   dsimp only at d1 d2 d3 d4 d5 d6 hks
   refine z5 rfl (fun h=>by cases h) (fun _=>?_)
   (repeat (first|refine zs rfl ?_|refine zg rfl rfl rfl ?_|refine zd ?_|refine q8 ?_|refine q7 ?_|refine zmo mpW rfl rfl rfl rfl ?_|refine zmi mpW rfl rfl rfl rfl ?_|refine zmu mpW rfl rfl rfl rfl ?_|refine zmd mpW rfl rfl rfl ?_|refine zmm mpW rfl ?_|refine zne eqK rfl rfl rfl ?_|refine zc rfl (c65) rfl rfl ?_|refine ze rfl (c65) rfl ?_|refine zk rfl rfl (fun _=>c65) rfl rfl ?_))
   refine z5 rfl (fun hm=>?_) (fun hm=>?_)
   ·have hm':c1<0∨w1+g<c2:=by
     have h2:(bif decide (c1<0) then true else decide (w1+g<c2))=true:=hm
     by_cases e:c1<0
     ·exact .inl e
     ·rw[decide_eq_false e] at h2;exact .inr (of_decide_eq_true h2)
    rw[if_pos hm'] at hks
    (repeat (first|refine zs rfl ?_|refine zg rfl rfl rfl ?_|refine zd ?_|refine q8 ?_|refine q7 ?_|refine zmo mpW rfl rfl rfl rfl ?_|refine zmi mpW rfl rfl rfl rfl ?_|refine zmu mpW rfl rfl rfl rfl ?_|refine zmd mpW rfl rfl rfl ?_|refine zmm mpW rfl ?_|refine zne eqK rfl rfl rfl ?_))
    refine⟨k+1,?_,by omega,by omega⟩
    rw[hks]
    (exact z6 (by conv=>lhs;reduce))
   ·have hm':¬ (c1<0∨w1+g<c2):=by
     have h2:(bif decide (c1<0) then true else decide (w1+g<c2))=false:=hm
     rintro(e|e)
     ·rw[decide_eq_true e] at h2;cases h2
     ·rw[decide_eq_true e] at h2
      by_cases e2:c1<0
      ·rw[decide_eq_true e2] at h2;cases h2
      ·rw[decide_eq_false e2] at h2;cases h2
    rw[if_neg hm'] at hks
    (repeat (first|refine zs rfl ?_|refine zg rfl rfl rfl ?_|refine zd ?_|refine q8 ?_|refine q7 ?_|refine zmo mpW rfl rfl rfl rfl ?_|refine zmi mpW rfl rfl rfl rfl ?_|refine zmu mpW rfl rfl rfl rfl ?_|refine zmd mpW rfl rfl rfl ?_|refine zmm mpW rfl ?_|refine zne eqK rfl rfl rfl ?_))
    refine z5 rfl (fun hn=>?_) (fun hn=>?_)
    ·(simp only[↓cdL] at hn;try simp only[Ty.dflt,Int.toNat_natCast] at hn)
     rw[if_pos hn] at hks
     (repeat (first|refine zs rfl ?_|refine zg rfl rfl rfl ?_|refine zd ?_|refine q8 ?_|refine q7 ?_|refine zmo mpW rfl rfl rfl rfl ?_|refine zmi mpW rfl rfl rfl rfl ?_|refine zmu mpW rfl rfl rfl rfl ?_|refine zmd mpW rfl rfl rfl ?_|refine zmm mpW rfl ?_|refine zne eqK rfl rfl rfl ?_))
     refine⟨k+1,?_,by omega,by omega⟩
     rw[hks]
     (exact z6 (by conv=>lhs;reduce))
    ·(simp only[↓cdL] at hn;try simp only[Ty.dflt,Int.toNat_natCast] at hn)
     rw[if_neg hn] at hks
     (repeat (first|refine zs rfl ?_|refine zg rfl rfl rfl ?_|refine zd ?_|refine q8 ?_|refine q7 ?_|refine zmo mpW rfl rfl rfl rfl ?_|refine zmi mpW rfl rfl rfl rfl ?_|refine zmu mpW rfl rfl rfl rfl ?_|refine zmd mpW rfl rfl rfl ?_|refine zmm mpW rfl ?_|refine zne eqK rfl rfl rfl ?_))
     refine⟨k+1,?_,by omega,by omega⟩
     rw[hks]
     (exact z6 (by conv=>lhs;reduce))
 ·(simp only[↓cdL] at hc;try simp only[Ty.dflt,Int.toNat_natCast] at hc)
  have hf:=hfin (by omega)
  rw[← hf] at hR
  (repeat (first|refine zs rfl ?_|refine zg rfl rfl rfl ?_|refine zd ?_|refine q8 ?_|refine q7 ?_|refine zmo mpW rfl rfl rfl rfl ?_|refine zmi mpW rfl rfl rfl rfl ?_|refine zmu mpW rfl rfl rfl rfl ?_|refine zmd mpW rfl rfl rfl ?_|refine zmm mpW rfl ?_|refine zne eqK rfl rfl rfl ?_))
  refine z32 rfl rfl rfl rfl ?_
  exact hR
def cntT(P:Int)(l:List Pt):Int×Int×Int:=clK P l (mLp P l (msT P l) (2 ^ (l.length-1)) (2 ^ l.length-1)) l.length
theorem j0w{l:List Pt}(h1:1≤l.length):(2 ^ l.length-1) % 2=1:=by
 obtain⟨k,hk⟩:∃ k,l.length=k+1:=⟨l.length-1,by omega⟩
 rw[hk,Nat.pow_succ]
 have:=Nat.one_le_two_pow (n:=k)
 omega
theorem z6h{P:Int}{l:List Pt}(h1:1≤l.length)(h8:l.length≤8)(m:Nat):mLp P l (msT P l) (2 ^ (l.length-1)) (2 ^ l.length-1) m=prn (msT P l) (ent P l (msT P l) (2 ^ l.length-1) m):=by
 have:=Nat.one_le_two_pow (n:=l.length)
 exact z6g h8 h1 m (j0w h1) (by omega)
theorem z3g{most:Int}{o:Option WD}{w:WD}(h:prn most o=some w):o=some w∧w.1≤most:=by
 unfold prn at h
 split at h
 ·cases h
 ·split at h
  ·cases h
  ·rename_i c
   have:=Option.some.inj h
   subst this
   exact⟨rfl,by omega⟩
theorem tab_bd{P:Int}{l:List Pt}(hP:1≤P∧P≤1000)(h1:1≤l.length)(h8:l.length≤8)(k:Nat)(w:WD)(h:mLp P l (msT P l) (2 ^ (l.length-1)) (2 ^ l.length-1) k=some w):wB 8 16777216 w:=by
 rw[z6h h1 h8] at h
 have:2 ^ l.length≤256:=Nat.pow_le_pow_right (n:=2) (by omega) h8
 exact z2r hP (by omega) (z3g h).1
theorem q9j{X:Ctx}{fn:Func}{c:Code}{Q:Exit→S→Prop}{s:S}(hb:fn.body=some c)(k:JK X [.code (fn.body.getD .skip)] Q s):JK X [.code c] Q s:=by rw[hb] at k;exact k
set_option maxHeartbeats 4000000 in
theorem fn126(P:Int)(l:List Pt)(hz:seE P l=0):Ox.Fn Tryz.prog 126 (.acons (vH P l) .anil) (·=vI (cntT P l).2.2):=by
 obtain⟨hP,h1,h8,hl⟩:=q1h.1 hz
 refine Ox.Fn.intro xok Tryz.func126 rfl Tryz.call126 (Nat.le_of_ble_eq_true rfl) (fun E M0 up=>?_)
 refine z8 ?_
 (repeat (first|refine zs rfl ?_|refine zg rfl rfl rfl ?_|refine zd ?_|refine q8 ?_|refine q7 ?_|refine zmo mpW rfl rfl rfl rfl ?_|refine zmi mpW rfl rfl rfl rfl ?_|refine zmu mpW rfl rfl rfl rfl ?_|refine zmd mpW rfl rfl rfl ?_|refine zmm mpW rfl ?_|refine zne eqK rfl rfl rfl ?_))
 refine JK.inl [6,0] rfl rfl trivial Tryz.func72 rfl Tryz.call72 (Nat.le_of_ble_eq_true rfl) rfl fun M1 up1=>?_
 refine q9j (fn:=Tryz.f72) rfl ?_
 show JK _ _ _ ⟨[(0,vH P l)],[(0,.fr 0 [(6,vH P l),(0,vH P l)])],1⟩
 refine z6y (rg:=6) hz fun es clk htg=>?_
 refine JK.inl [8,0] rfl rfl trivial Tryz.func73 rfl Tryz.call73 (Nat.le_of_ble_eq_true rfl) rfl fun M2 up2=>?_
 refine q9j (fn:=Tryz.f73) rfl ?_
 show JK _ _ _ ⟨[(0,vH P l),(1,.lf (.mp 1))],[(2,.fr 0 [(8,.lf (.mp 1)),(0,vH P l)]),(1,.map kyT wyT es clk)],3⟩
 refine z03 (rg:=8) hz (tab_bd hP h1 h8) htg ?_
 (repeat (first|refine zs rfl ?_|refine zg rfl rfl rfl ?_|refine zd ?_|refine q8 ?_|refine q7 ?_|refine zmo mpW rfl rfl rfl rfl ?_|refine zmi mpW rfl rfl rfl rfl ?_|refine zmu mpW rfl rfl rfl rfl ?_|refine zmd mpW rfl rfl rfl ?_|refine zmm mpW rfl ?_|refine zne eqK rfl rfl rfl ?_))
 refine⟨.inl rfl,_,_,rfl,trivial,?_⟩
 rfl
end Go.Proofs.YtjfafggkkjgpeaaGreatDoor
namespace Go.Proofs.YtjfafggkkjgpeaaGreatDoor
open Go Go.RowKit Ox Ox.Sh Ox.Se
section
variable (P:Int)(l:List Pt)
def wR:List Nat→Int
 |[]=>0
 |[_]=>0
 |m::i::r=>wR (i::r)+gp P l i m
def pthA:Nat→Nat→Nat→List (List Nat)
 |0,_,_=>[]
 |f+1,q,m=>if q=1∧m=0 then [[0]] else if m≠0∧q.testBit m=true then(bitsL (q ^^^ 2 ^ m)).flatMap fun i=>(pthA f (q ^^^ 2 ^ m) i).map (m::·) else []
def pth(q m:Nat):List (List Nat):=pthA 256 q m
end
theorem z0a:∀ (f q m:Nat),q<f→pthA f q m=pthA (f+1) q m
 |0,q,m,h=>by omega
 |f+1,q,m,h=>by
  rw[pthA,pthA]
  split
  ·rfl
  ·split
   ·rename_i c
    have hlt:=q2q c.2
    have:∀ i,pthA f (q ^^^ 2 ^ m) i=pthA (f+1) (q ^^^ 2 ^ m) i:=fun i=>z0a f _ i (by omega)
    simp only[this]
   ·rfl
theorem q99{q:Nat}(m:Nat)(h:q<256):pth q m=if q=1∧m=0 then [[0]] else if m≠0∧q.testBit m=true then(bitsL (q ^^^ 2 ^ m)).flatMap fun i=>(pth (q ^^^ 2 ^ m) i).map (m::·) else []:=by
 unfold pth
 rw[z0a 256 q m h,pthA]
theorem q1i{q m:Nat}(h:q<256){s:List Nat}(hs:s∈pth q m):∃ r,s=m::r:=by
 rw[q99 m h] at hs
 split at hs
 ·rename_i c
  rw[List.mem_singleton] at hs
  exact⟨[],by rw[hs,c.2]⟩
 ·split at hs
  ·obtain⟨i,_,hs⟩:=List.mem_flatMap.1 hs
   obtain⟨r,_,rfl⟩:=List.mem_map.1 hs
   exact⟨r,rfl⟩
  ·cases hs
theorem mask_ext{a b:Nat}(h:∀ i,a.testBit i=true↔b.testBit i=true):a=b:=Nat.eq_of_testBit_eq fun i=>Bool.eq_iff_iff.2 (h i)
theorem z15{x:Nat}:(1:Nat).testBit x=true↔x=0:=by
 have h1:=Nat.testBit_two_pow (n:=0) (m:=x)
 rw[Nat.pow_zero] at h1
 rw[h1,decide_eq_true_iff]
 exact⟨fun h=>h.symm,fun h=>h.symm⟩
theorem z55{q m x:Nat}(h:q.testBit m=true):(q ^^^ 2 ^ m).testBit x=true↔q.testBit x=true∧x≠m:=by
 rw[Nat.testBit_xor,Nat.testBit_two_pow]
 by_cases e:m=x
 ·subst e;rw[h];simp
 ·rw[decide_eq_false e,Bool.xor_false]
  exact⟨fun h=>⟨h,fun h'=>e h'.symm⟩,fun h=>h.1⟩
theorem z1z:∀ {q m:Nat},q<256→∀ {s:List Nat},s∈pth q m↔(∃ r,s=m::r)∧s.getLast?=some 0∧s.Nodup∧∀ x,x∈s↔q.testBit x=true:=by
 intro q m hq s
 induction s generalizing q m with
 |nil=>
  constructor
  ·intro h
   obtain⟨r,hr⟩:=q1i hq h
   cases hr
  ·rintro⟨⟨r,hr⟩,_⟩;cases hr
 |cons a r ih=>
  rw[q99 m hq]
  by_cases c0:q=1∧m=0
  ·rw[if_pos c0]
   obtain⟨rfl,rfl⟩:=c0
   rw[List.mem_singleton]
   constructor
   ·intro h
    rw[h]
    refine⟨⟨[],rfl⟩,rfl,by simp,fun x=>?_⟩
    rw[List.mem_singleton,z15]
   ·rintro⟨⟨r',hr⟩,h2,h3,h4⟩
    obtain⟨rfl,rfl⟩:=List.cons.inj hr
    cases r with
    |nil=>rfl
    |cons b r=>
     have:=z15.1 ((h4 b).1 (by simp))
     subst this
     exact absurd List.mem_cons_self (List.nodup_cons.1 h3).1
  ·rw[if_neg c0]
   by_cases c1:m≠0∧q.testBit m=true
   ·rw[if_pos c1]
    have hlt:=q2q c1.2
    constructor
    ·intro h
     obtain⟨i,hi,h⟩:=List.mem_flatMap.1 h
     obtain⟨r',hr',e⟩:=List.mem_map.1 h
     obtain⟨rfl,rfl⟩:=List.cons.inj e
     obtain⟨⟨r2,e2⟩,h2,h3,h4⟩:=(ih (q:=q ^^^ 2 ^ m) (m:=i) (by omega)).1 hr'
     refine⟨⟨_,rfl⟩,?_,List.nodup_cons.2 ⟨fun hm=>?_,h3⟩,fun x=>?_⟩
     ·rw[e2] at h2 ⊢
      rw[List.getLast?_cons_cons];exact h2
     ·have:=(h4 m).1 hm
      rw[q8a c1.2] at this;cases this
     ·rw[List.mem_cons,h4,z55 c1.2]
      constructor
      ·rintro(rfl|h)
       ·exact c1.2
       ·exact h.1
      ·intro h
       by_cases e:x=m
       ·exact .inl e
       ·exact .inr ⟨h,e⟩
    ·rintro⟨⟨r',hr⟩,h2,h3,h4⟩
     obtain⟨rfl,rfl⟩:=List.cons.inj hr
     cases r with
     |nil=>
      have:a=0:=by simpa using h2
      exact absurd this c1.1
     |cons i r=>
      obtain⟨n1,n2⟩:=List.nodup_cons.1 h3
      have h4':∀ x,x∈i::r↔(q ^^^ 2 ^ a).testBit x=true:=fun x=>by
       rw[z55 c1.2,← h4,List.mem_cons (a:=x) (b:=a)]
       constructor
       ·intro h;exact⟨.inr h,fun e=>n1 (e▸h)⟩
       ·rintro⟨h|h,hne⟩
        ·exact absurd h hne
        ·exact h
      have hi:=(h4' i).1 List.mem_cons_self
      refine List.mem_flatMap.2 ⟨i,x6.2 ⟨q62 (N:=8) (by omega) hi,hi⟩,List.mem_map.2 ⟨i::r,(ih (by omega)).2 ⟨⟨r,rfl⟩,?_,n2,h4'⟩,rfl⟩⟩
      rw[List.getLast?_cons_cons] at h2;exact h2
   ·rw[if_neg c1]
    constructor
    ·intro h;cases h
    ·rintro⟨⟨r',hr⟩,h2,h3,h4⟩
     obtain⟨rfl,rfl⟩:=List.cons.inj hr
     have hb:=(h4 a).1 List.mem_cons_self
     have ha:a=0:=Classical.byContradiction fun e=>c1 ⟨e,hb⟩
     subst ha
     exfalso
     cases r with
     |nil=>
      refine c0 ⟨mask_ext fun i=>?_,rfl⟩
      rw[← h4,List.mem_singleton,z15]
     |cons b r=>
      rw[List.getLast?_cons_cons] at h2
      exact(List.nodup_cons.1 h3).1 (List.mem_of_getLast? h2)
theorem pth_nd:∀ (q m:Nat),q<256→(pth q m).Nodup:=by
 intro q
 induction q using Nat.strongRecOn with
 |_ q ih=>
  intro m hq
  rw[q99 m hq]
  split
  ·simp
  ·split
   ·rename_i c
    have hlt:=q2q c.2
    show List.Pairwise (·≠·) _
    rw[List.pairwise_flatMap]
    refine⟨fun i hi=>?_,?_⟩
    ·rw[List.pairwise_map]
     exact(ih _ hlt i (by omega)).imp fun h e=>h (List.cons.inj e).2
    ·refine(q9l _).imp fun {i j} hij x hx y hy e=>hij ?_
     obtain⟨a,ha,rfl⟩:=List.mem_map.1 hx
     obtain⟨b,hb,rfl⟩:=List.mem_map.1 hy
     have:=(List.cons.inj e).2
     subst this
     obtain⟨r1,e1⟩:=q1i (by omega) ha
     obtain⟨r2,e2⟩:=q1i (by omega) hb
     rw[e1] at e2
     exact(List.cons.inj e2).1
   ·exact List.nodup_nil
structure Ok(P:Int)(l:List Pt)(most:Int)(e:Option WD)(F:List (List Nat)):Prop where
 a:∀ w,e=some w→∃ s∈F,wR P l s=w.1
 b:∀ s∈F,wR P l s≤most→∃ w,e=some w∧w.1≤wR P l s
 c:∀ w,e=some w→w.1≤most→w.2.1=((F.countP fun s=>decide (wR P l s=w.1):Nat):Int)
def ciE(most:Int)(g:Nat→Int)(e:Nat→Option WD)(x:Int)(i:Nat):Int:=match e i with
 |none=>0
 |some v=>if v.1≤most∧v.1+g i=x then v.2.1 else 0
structure Fo(most:Int)(g:Nat→Int)(e:Nat→Option WD)(is:List Nat)(x c:Int):Prop where
 ex:∃ i∈is,∃ v,e i=some v∧v.1≤most∧v.1+g i=x
 mn:∀ i∈is,∀ v,e i=some v→v.1≤most→x≤v.1+g i
 ct:c=sm (ciE most g e x) is
theorem z1s{α:Type}(f:Nat→Nat):∀ is:List Nat,((is.map f).sum:Int)=sm (fun i=>(f i:Int)) is
 |[]=>rfl
 |i::is=>by rw[List.map_cons,List.sum_cons,y5,← z1s (α:=α) f is];push_cast;rfl
theorem q1g{f g:Nat→Int}:∀ {is:List Nat},(∀ i∈is,f i=g i)→sm f is=sm g is
 |[],_=>rfl
 |i::is,h=>by rw[y5,y5,h i List.mem_cons_self,q1g fun j hj=>h j (List.mem_cons_of_mem _ hj)]
theorem Fo.count{P:Int}{l:List Pt}{most:Int}{g:Nat→Int}{e:Nat→Option WD}{is:List Nat}{x c:Int}{F:Nat→List (List Nat)}(h:Fo most g e is x c)(hg:∀ i,0≤g i)(hF:∀ i∈is,Ok P l most (e i) (F i))(hx:x≤most) :
  c=sm (fun i=>(((F i).countP fun s=>decide (wR P l s+g i=x):Nat):Int)) is:=by
 rw[h.ct]
 refine q1g fun i hi=>?_
 have hk:=hF i hi
 have hz:(∀ v,e i=some v→v.1≤most→v.1+g i≠x)→(F i).countP (fun s=>decide (wR P l s+g i=x))=0:=fun hno=>by
  rw[List.countP_eq_zero]
  intro s hs hd
  have hd':=of_decide_eq_true hd
  have:=hg i
  obtain⟨v,hv,hle⟩:=hk.b s hs (by omega)
  have:=h.mn i hi v hv (by omega)
  exact hno v hv (by omega) (by omega)
 unfold ciE
 cases hv:e i with
 |none=>rw[hz (fun v h=>by rw[hv] at h;cases h)];rfl
 |some v=>
  dsimp only
  split
  ·rename_i c
   rw[hk.c v hv c.1]
   congr 2
   funext s
   exact decide_eq_decide.2 ⟨fun h=>by omega,fun h=>by omega⟩
  ·rename_i c
   rw[hz (fun u hu h1 h2=>by rw[hv] at hu;have:=Option.some.inj hu;subst this;exact c ⟨h1,h2⟩)];rfl
section
variable {P:Int}{l:List Pt}{most:Int}
theorem ci_zero{g:Nat→Int}{e:Nat→Option WD}{x y:Int}{is:List Nat}(hm:∀ i∈is,∀ v,e i=some v→v.1≤most→x≤v.1+g i)(h:y<x):sm (ciE most g e y) is=0:=by
 have:sm (ciE most g e y) is=sm (fun _=>(0:Int)) is:=q1g fun i hi=>by
  unfold ciE
  split
  ·rfl
  ·rename_i v hv
   rw[if_neg]
   rintro⟨h1,h2⟩
   have:=hm i hi v hv h1
   omega
 rw[this]
 clear this hm
 induction is with
 |nil=>rfl
 |cons i is ih=>rw[y5,ih];omega
theorem Fo.snoc{g:Nat→Int}{e:Nat→Option WD}{is:List Nat}{x c:Int}{i:Nat}(h:Fo most g e is x c) :
  (∀ v,e i=some v→v.1≤most→x<v.1+g i)→Fo most g e (is++[i]) x c:=fun hi=>by
 refine⟨?_,fun j hj v hv hv2=>?_,?_⟩
 ·obtain⟨j,hj,r⟩:=h.ex
  exact⟨j,List.mem_append_left _ hj,r⟩
 ·rcases List.mem_append.1 hj with hj|hj
  ·exact h.mn j hj v hv hv2
  ·rw[List.mem_singleton.1 hj] at hv ⊢
   have:=hi v hv hv2
   omega
 ·rw[z26,← h.ct,y5]
  have:ciE most g e x i=0:=by
   unfold ciE
   split
   ·rfl
   ·rename_i v hv
    rw[if_neg]
    rintro⟨h1,h2⟩
    have:=hi v hv h1
    omega
  rw[this]
  have:sm (ciE most g e x) []=0:=rfl
  omega
theorem Fo.same{g:Nat→Int}{e:Nat→Option WD}{is:List Nat}{x c:Int}{i:Nat}{v:WD}(h:Fo most g e is x c)(hv:e i=some v)(h1:v.1≤most)(h2:v.1+g i=x):Fo most g e (is++[i]) x (c+v.2.1):=by
 refine⟨⟨i,by simp,v,hv,h1,h2⟩,fun j hj u hu hu2=>?_,?_⟩
 ·rcases List.mem_append.1 hj with hj|hj
  ·exact h.mn j hj u hu hu2
  ·rw[List.mem_singleton.1 hj,hv] at hu
   have:=Option.some.inj hu
   subst this
   rw[List.mem_singleton.1 hj];omega
 ·rw[z26,← h.ct,y5]
  have:ciE most g e x i=v.2.1:=by unfold ciE;rw[hv];exact if_pos ⟨h1,h2⟩
  rw[this]
  have:sm (ciE most g e x) []=0:=rfl
  omega
theorem j1p{g:Nat→Int}{e:Nat→Option WD}{is:List Nat}{i:Nat}{v:WD}(hm:∀ j∈is,∀ u,e j=some u→u.1≤most→v.1+g i<u.1+g j)(hv:e i=some v)(h1:v.1≤most):Fo most g e (is++[i]) (v.1+g i) v.2.1:=by
 refine⟨⟨i,by simp,v,hv,h1,rfl⟩,fun j hj u hu hu2=>?_,?_⟩
 ·rcases List.mem_append.1 hj with hj|hj
  ·have:=hm j hj u hu hu2;omega
  ·rw[List.mem_singleton.1 hj,hv] at hu
   have:=Option.some.inj hu
   subst this
   rw[List.mem_singleton.1 hj];omega
 ·rw[z26,y5]
  have e1:ciE most g e (v.1+g i) i=v.2.1:=by unfold ciE;rw[hv];exact if_pos ⟨h1,rfl⟩
  have e2:=ci_zero (most:=most) (g:=g) (e:=e) (x:=v.1+g i+1) (y:=v.1+g i) (is:=is) (fun j hj u hu hu2=>by have:=hm j hj u hu hu2;omega) (by omega)
  rw[e1,e2]
  have:sm (ciE most g e (v.1+g i)) []=0:=rfl
  omega
theorem z4c{e:Nat→Option WD}{m:Nat}:∀ (js is:List Nat) (cur:Option WD),
  (match cur with|none=>∀ i∈is,∀ v,e i=some v→¬ v.1≤most|some w=>Fo most (fun i=>gp P l i m) e is w.1 w.2.1∧∃ i v,e i=some v∧v.1≤most∧v.1+gp P l i m=w.1∧w.2.2.1=(i:Int)∧i∈is) →
  (match js.foldl (cst P l most e m) cur with|none=>∀ i∈is++js,∀ v,e i=some v→¬ v.1≤most|some w=>Fo most (fun i=>gp P l i m) e (is++js) w.1 w.2.1∧∃ i v,e i=some v∧v.1≤most∧v.1+gp P l i m=w.1∧w.2.2.1=(i:Int)∧i∈is++js)
 |[],is,cur,h=>by rw[List.append_nil];exact h
 |j::js,is,cur,h=>by
  have e1:is++j::js=(is++[j])++js:=by simp
  rw[List.foldl_cons,e1]
  refine z4c js (is++[j]) _ ?_
  unfold cst
  cases hv:e j with
  |none=>
   dsimp only
   cases cur with
   |none=>
    dsimp only at h ⊢
    intro i hi v hv2
    rcases List.mem_append.1 hi with hi|hi
    ·exact h i hi v hv2
    ·rw[List.mem_singleton.1 hi,hv] at hv2;cases hv2
   |some w=>
    dsimp only at h ⊢
    obtain⟨h1,i,v,h2,h3,h4,h5,h6⟩:=h
    exact⟨h1.snoc fun v h _=>by(rw[hv] at h;cases h),i,v,h2,h3,h4,h5,List.mem_append_left _ h6⟩
  |some v=>
   dsimp only
   by_cases hp:v.1>most
   ·rw[if_pos hp]
    cases cur with
    |none=>
     dsimp only at h ⊢
     intro i hi u hu
     rcases List.mem_append.1 hi with hi|hi
     ·exact h i hi u hu
     ·rw[List.mem_singleton.1 hi,hv] at hu
      have:=Option.some.inj hu
      subst this;omega
    |some w=>
     dsimp only at h ⊢
     obtain⟨h1,i,u,h2,h3,h4,h5,h6⟩:=h
     refine⟨h1.snoc fun u hu hu2=>?_,i,u,h2,h3,h4,h5,List.mem_append_left _ h6⟩
     rw[hv] at hu
     have:=Option.some.inj hu
     subst this;omega
   ·rw[if_neg hp]
    have hp':v.1≤most:=by omega
    cases cur with
    |none=>
     dsimp only at h ⊢
     refine⟨?_,j,v,hv,hp',rfl,rfl,by simp⟩
     exact j1p (g:=fun i=>gp P l i m) (fun i hi u hu hu2=>absurd hu2 (h i hi u hu)) hv hp'
    |some w=>
     dsimp only at h
     obtain⟨h1,i,u,h2,h3,h4,h5,h6⟩:=h
     dsimp only
     show Fo most _ e _ (if w.1=v.1+gp P l j m then(v.1+gp P l j m,v.2.1+w.2.1,w.2.2.1,()) else if w.1<v.1+gp P l j m then w else(v.1+gp P l j m,v.2.1,(j:Int),()):WD).1 (if w.1=v.1+gp P l j m then(v.1+gp P l j m,v.2.1+w.2.1,w.2.2.1,()) else if w.1<v.1+gp P l j m then w else(v.1+gp P l j m,v.2.1,(j:Int),()):WD).2.1∧∃ i u,e i=some u∧u.1≤most∧u.1+gp P l i m=(if w.1=v.1+gp P l j m then(v.1+gp P l j m,v.2.1+w.2.1,w.2.2.1,()) else if w.1<v.1+gp P l j m then w else(v.1+gp P l j m,v.2.1,(j:Int),()):WD).1∧(if w.1=v.1+gp P l j m then(v.1+gp P l j m,v.2.1+w.2.1,w.2.2.1,()) else if w.1<v.1+gp P l j m then w else(v.1+gp P l j m,v.2.1,(j:Int),()):WD).2.2.1=(i:Int)∧i∈is++[j]
     by_cases c1:w.1=v.1+gp P l j m
     ·rw[if_pos c1]
      dsimp only
      refine⟨?_,i,u,h2,h3,by omega,h5,List.mem_append_left _ h6⟩
      have:=h1.same (g:=fun i=>gp P l i m) hv hp' c1.symm
      rw[Int.add_comm v.2.1,← c1]
      exact this
     ·rw[if_neg c1]
      by_cases c2:w.1<v.1+gp P l j m
      ·rw[if_pos c2]
       refine⟨h1.snoc fun u hu hu2=>?_,i,u,h2,h3,h4,h5,List.mem_append_left _ h6⟩
       rw[hv] at hu
       have:=Option.some.inj hu
       subst this;exact c2
      ·rw[if_neg c2]
       dsimp only
       refine⟨?_,j,v,hv,hp',rfl,rfl,by simp⟩
       exact j1p (g:=fun i=>gp P l i m) (fun i hi u hu hu2=>by have:=h1.mn i hi u hu hu2;omega) hv hp'
theorem z4b{e:Nat→Option WD}{m:Nat}{is:List Nat}:match foldC P l most e m is with
  |none=>∀ i∈is,∀ v,e i=some v→¬ v.1≤most
  |some w=>Fo most (fun i=>gp P l i m) e is w.1 w.2.1∧∃ i v,e i=some v∧v.1≤most∧v.1+gp P l i m=w.1∧w.2.2.1=(i:Int)∧i∈is:=by
 have:=z4c (P:=P) (l:=l) (most:=most) (e:=e) (m:=m) is [] none (fun i hi=>by cases hi)
 rw[List.nil_append] at this
 exact this
theorem q8d{q i m:Nat}(h:q<256){s:List Nat}(hs:s∈pth q i):wR P l (m::s)=wR P l s+gp P l i m:=by
 obtain⟨r,rfl⟩:=q1i h hs
 rfl
theorem z9u(hP:1≤P):∀ (q m:Nat),q<256→Ok P l most (ent P l most q m) (pth q m):=by
 intro q
 induction q using Nat.strongRecOn with
 |_ q ih=>
  intro m hq
  rw[q6x m hq,q99 m hq]
  by_cases c0:q=1∧m=0
  ·rw[if_pos c0,if_pos c0]
   refine⟨fun w hw=>?_,fun s hs _=>?_,fun w hw _=>?_⟩
   ·rw[← Option.some.inj hw]
    exact⟨[0],by simp,rfl⟩
   ·rw[List.mem_singleton] at hs
    rw[hs]
    exact⟨st0,rfl,Int.le_refl _⟩
   ·rw[← Option.some.inj hw]
    rfl
  ·rw[if_neg c0,if_neg c0]
   by_cases c1:m≠0∧q.testBit m=true
   ·rw[if_pos c1,if_pos c1]
    have hlt:=q2q c1.2
    have hp:q ^^^ 2 ^ m<256:=by omega
    have hF:∀ i∈bitsL (q ^^^ 2 ^ m),Ok P l most (ent P l most (q ^^^ 2 ^ m) i) (pth (q ^^^ 2 ^ m) i):=fun i _=>ih _ hlt i hp
    have hg:∀ i,0≤gp P l i m:=fun i=>(q7l (l:=l) hP i m).1
    have hfo:=z4b (P:=P) (l:=l) (most:=most) (e:=ent P l most (q ^^^ 2 ^ m)) (m:=m) (is:=bitsL (q ^^^ 2 ^ m))
    refine⟨fun w hw=>?_,fun s hs hle=>?_,fun w hw hle=>?_⟩
    ·rw[hw] at hfo
     obtain⟨_,i,v,h2,h3,h4,h5,h6⟩:=hfo
     obtain⟨s,hs,e⟩:=(hF i h6).a v h2
     refine⟨m::s,List.mem_flatMap.2 ⟨i,h6,List.mem_map.2 ⟨s,hs,rfl⟩⟩,?_⟩
     rw[q8d hp hs,e,h4]
    ·obtain⟨i,hi,hs⟩:=List.mem_flatMap.1 hs
     obtain⟨r,hr,rfl⟩:=List.mem_map.1 hs
     rw[q8d hp hr] at hle ⊢
     have:=hg i
     obtain⟨v,hv,hle2⟩:=(hF i hi).b r hr (by omega)
     cases hw:foldC P l most (ent P l most (q ^^^ 2 ^ m)) m (bitsL (q ^^^ 2 ^ m)) with
     |none=>
      rw[hw] at hfo
      exact absurd (show v.1≤most by omega) (hfo i hi v hv)
     |some w=>
      rw[hw] at hfo
      have:=hfo.1.mn i hi v hv (by omega)
      exact⟨w,rfl,by omega⟩
    ·rw[hw] at hfo
     rw[hfo.1.count hg hF hle,List.countP_flatMap,z1s (α:=Nat)]
     refine q1g fun i hi=>?_
     show((_:Nat):Int)=((List.countP _ (List.map _ _):Nat):Int)
     rw[List.countP_map]
     congr 1
     refine List.countP_congr fun s hs=>?_
     show decide _=true↔decide (wR P l (m::s)=w.1)=true
     rw[q8d hp hs]
   ·rw[if_neg c1,if_neg c1]
    refine⟨fun w hw=>(by cases hw),fun s hs _=>(by cases hs),fun w hw _=>(by cases hw)⟩
theorem z2q{q m:Nat}(hq:q<256){w:WD}(hw:ent P l most q m=some w)(h:¬ (q=1∧m=0)):m≠0∧q.testBit m=true∧∃ i v,ent P l most (q ^^^ 2 ^ m) i=some v∧v.1≤most∧v.1+gp P l i m=w.1∧w.2.2.1=(i:Int)∧(q ^^^ 2 ^ m).testBit i=true:=by
 rw[q6x m hq,if_neg h] at hw
 split at hw
 ·rename_i c
  have hfo:=z4b (P:=P) (l:=l) (most:=most) (e:=ent P l most (q ^^^ 2 ^ m)) (m:=m) (is:=bitsL (q ^^^ 2 ^ m))
  rw[hw] at hfo
  obtain⟨_,i,v,h2,h3,h4,h5,h6⟩:=hfo
  exact⟨c.1,c.2,i,v,h2,h3,h4,h5,(x6.1 h6).2⟩
 ·cases hw
def ctF(P:Int)(l:List Pt)(T:Nat→Option WD)(x:Int)(i:Nat):Int:=match T i with
 |none=>0
 |some v=>if v.1+gp P l i 0=x then v.2.1 else 0
def CF(P:Int)(l:List Pt)(T:Nat→Option WD)(k:Nat)(c:Int×Int×Int):Prop:=
 (c.1<0∧∀ i,i<k→T i=none)∨(0≤c.1∧(c.1<k∧∃ v,T c.1.toNat=some v∧v.1+gp P l c.1.toNat 0=c.2.1) ∧
  ((∀ i,i<k→∀ v,T i=some v→c.2.1≤v.1+gp P l i 0)∧c.2.2=sm (ctF P l T c.2.1) (List.range k)))
theorem clK_fo{T:Nat→Option WD}:∀ k:Nat,CF P l T k (clK P l T k)
 |0=>.inl ⟨(by show(-1:Int)<0;decide),fun i h=>by omega⟩
 |k+1=>by
  have ih:=clK_fo (T:=T) k
  unfold CF at ih
  have hz:∀ y:Int,(∀ i,i<k→∀ v,T i=some v→y<v.1+gp P l i 0)→sm (ctF P l T y) (List.range k)=0:=fun y hy=>by
   have e:sm (ctF P l T y) (List.range k)=sm (fun _=>(0:Int)) (List.range k):=q1g fun i hi=>by
    unfold ctF
    cases hT:T i with
    |none=>rfl
    |some v=>
     have:=hy i (List.mem_range.1 hi) v hT
     show(if v.1+gp P l i 0=y then v.2.1 else 0)=0
     rw[if_neg (by omega)]
   rw[e]
   clear e hy ih
   induction (List.range k) with
   |nil=>rfl
   |cons i is ih=>rw[y5,ih];omega
  rw[clK]
  cases hT:T k with
  |none=>
   dsimp only
   rcases ih with⟨h1,h2⟩|⟨h1,⟨h2,h3⟩,h4,h5⟩
   ·refine .inl ⟨h1,fun i hi=>?_⟩
    rcases Nat.lt_or_ge i k with c|c
    ·exact h2 i c
    ·rw[show i=k by omega,hT]
   ·refine .inr ⟨h1,⟨by push_cast;omega,h3⟩,fun i hi v hv=>?_,?_⟩
    ·rcases Nat.lt_or_ge i k with c|c
     ·exact h4 i c v hv
     ·rw[show i=k by omega,hT] at hv;cases hv
    ·rw[n5,show ctF P l T _ k=0 by unfold ctF;rw[hT]]
     omega
  |some w=>
   dsimp only
   by_cases c1:(clK P l T k).1<0∨w.1+gp P l k 0<(clK P l T k).2.1
   ·rw[if_pos c1]
    have hlt:∀ i,i<k→∀ v,T i=some v→w.1+gp P l k 0<v.1+gp P l i 0:=fun i hi v hv=>by
     rcases ih with⟨h1,h2⟩|⟨h1,⟨h2,h3⟩,h4,h5⟩
     ·rw[h2 i hi] at hv;cases hv
     ·have:=h4 i hi v hv
      omega
    refine .inr ⟨by omega,⟨by push_cast;omega,w,by rw[Int.toNat_natCast];exact hT,by rw[Int.toNat_natCast]⟩,fun i hi v hv=>?_,?_⟩
    ·show w.1+gp P l k 0≤v.1+gp P l i 0
     rcases Nat.lt_or_ge i k with c|c
     ·have:=hlt i c v hv;omega
     ·rw[show i=k by omega,hT] at hv
      have:=Option.some.inj hv
      subst this
      rw[show i=k by omega];omega
    ·rw[n5,hz _ hlt,show ctF P l T (w.1+gp P l k 0) k=w.2.1 by unfold ctF;rw[hT];exact if_pos rfl]
     dsimp only;omega
   ·rw[if_neg c1]
    rcases ih with⟨h1,h2⟩|⟨h1,⟨h2,h3⟩,h4,h5⟩
    ·exact absurd (Or.inl h1) c1
    ·by_cases c2:w.1+gp P l k 0=(clK P l T k).2.1
     ·rw[if_pos c2]
      refine .inr ⟨h1,⟨by push_cast;omega,h3⟩,fun i hi v hv=>?_,?_⟩
      ·show(clK P l T k).2.1≤v.1+gp P l i 0
       rcases Nat.lt_or_ge i k with c|c
       ·exact h4 i c v hv
       ·rw[show i=k by omega,hT] at hv
        have:=Option.some.inj hv
        subst this
        rw[show i=k by omega];omega
      ·rw[n5,← h5,show ctF P l T (clK P l T k).2.1 k=w.2.1 by unfold ctF;rw[hT];exact if_pos c2]
     ·rw[if_neg c2]
      refine .inr ⟨h1,⟨by push_cast;omega,h3⟩,fun i hi v hv=>?_,?_⟩
      ·rcases Nat.lt_or_ge i k with c|c
       ·exact h4 i c v hv
       ·rw[show i=k by omega,hT] at hv
        have:=Option.some.inj hv
        subst this
        rw[show i=k by omega];omega
      ·rw[n5,← h5,show ctF P l T (clK P l T k).2.1 k=0 by unfold ctF;rw[hT];exact if_neg c2];omega
end
end Go.Proofs.YtjfafggkkjgpeaaGreatDoor
namespace Go.Proofs.YtjfafggkkjgpeaaGreatDoor
open Go Go.RowKit Ox Ox.Sh Ox.Se
def lastN:Nat→List Nat→Nat
 |h,[]=>h
 |_,y::t=>lastN y t
theorem nd_rev{α:Type}{s:List α}:s.reverse.Nodup↔s.Nodup:=(List.reverse_perm s).nodup_iff
theorem z61{α:Type}{a b:List α}(e:a.reverse=b.reverse):a=b:=by
 have:=congrArg List.reverse e
 rwa[List.reverse_reverse,List.reverse_reverse] at this
section
variable {P:Int}{l:List Pt}{most:Int}
theorem z2z:∀ (z:List Nat) (h m:Nat),wst P l h (z++[m])=wst P l h z+gp P l (lastN h z) m
 |[],h,m=>by simp[wst,lastN]
 |y::t,h,m=>by
  rw[List.cons_append,wst,wst,lastN,z2z t y m];omega
theorem z6b:∀ (z:List Nat) (h:Nat) (r:List Nat),wR P l (z.reverse++h::r)=wR P l (h::r)+wst P l h z∧∃ r',z.reverse++h::r=lastN h z::r'
 |[],h,r=>⟨by simp[wst],r,rfl⟩
 |y::t,h,r=>by
  have e:(y::t).reverse++h::r=t.reverse++y::h::r:=by simp
  rw[e]
  obtain⟨h1,r',h2⟩:=z6b t y (h::r)
  refine⟨?_,r',h2⟩
  rw[h1,wst]
  show wR P l (h::r)+gp P l h y+wst P l y t=_
  omega
theorem q82{N x:Nat}:(2 ^ N-1).testBit x=true↔x<N:=by rw[Nat.testBit_two_pow_sub_one,decide_eq_true_iff]
theorem q19{N:Nat}(h1:1≤N)(h8:N≤8){s:List Nat}:(∃ i,i<N∧s∈pth (2 ^ N-1) i)↔s.reverse∈allO N:=by
 have hq:2 ^ N-1<256:=by
  have:2 ^ N≤256:=Nat.pow_le_pow_right (n:=2) (by omega) h8
  have:=Nat.one_le_two_pow (n:=N)
  omega
 rw[q1k h1]
 constructor
 ·rintro⟨i,hi,hs⟩
  obtain⟨⟨r,e⟩,h2,h3,h4⟩:=(z1z hq).1 hs
  have h5:s.reverse.head?=some 0:=by rw[List.head?_reverse];exact h2
  obtain⟨z,hz⟩:∃ z,s.reverse=0::z:=by
   cases hr:s.reverse with
   |nil=>rw[hr] at h5;cases h5
   |cons a z=>rw[hr] at h5;exact⟨z,by rw[Option.some.inj h5]⟩
  refine⟨z,hz,?_⟩
  rw[← hz]
  refine(List.perm_ext_iff_of_nodup (nd_rev.2 h3) List.nodup_range).2 fun x=>?_
  rw[List.mem_reverse,h4,q82,List.mem_range]
 ·rintro⟨z,hz,hp⟩
  have hs:s=(0::z).reverse:=by rw[← hz,List.reverse_reverse]
  obtain⟨_,r',e⟩:=z6b (P:=1) (l:=[]) z 0 []
  have hm:∀ x,x∈s↔x<N:=fun x=>by rw[hs,List.mem_reverse,hp.mem_iff,List.mem_range]
  have e2:s=lastN 0 z::r':=by rw[hs,List.reverse_cons];exact e
  refine⟨lastN 0 z,(hm _).1 (by rw[e2];exact List.mem_cons_self),(z1z hq).2 ⟨⟨r',e2⟩,?_,?_,fun x=>by rw[hm,q82]⟩⟩
  ·rw[hs,List.getLast?_reverse];rfl
  ·rw[hs];exact nd_rev.2 (hp.nodup_iff.2 List.nodup_range)
def xmW(P:Int)(l:List Pt):Int:=P*leR P l-sm (lO l) (List.range l.length)
theorem rd_wR(hP:1≤P){i:Nat}{s:List Nat}(h1:1≤l.length)(h8:l.length≤8)(hs:s∈pth (2 ^ l.length-1) i)(hi:i<l.length):wR P l s+gp P l i 0=P*rdL P l s.reverse-sm (lO l) (List.range l.length):=by
 have hq:2 ^ l.length-1<256:=by
  have:2 ^ l.length≤256:=Nat.pow_le_pow_right (n:=2) (by omega) h8
  have:=Nat.one_le_two_pow (n:=l.length)
  omega
 obtain⟨z,hz,hp⟩:=(q1k h1).1 ((q19 h1 h8).1 ⟨i,hi,hs⟩)
 have he:s=z.reverse++[0]:=by rw[← List.reverse_reverse s,hz,List.reverse_cons]
 obtain⟨e1,r',e2⟩:=z6b (P:=P) (l:=l) z 0 []
 obtain⟨r,e3⟩:=q1i hq hs
 have hl:lastN 0 z=i:=by
  rw[← he,e3] at e2
  exact(List.cons.inj e2).1.symm
 rw[hz]
 show _=P*rd P l 0 z-_
 rw[← tot_rd hP hp]
 unfold tot
 rw[q4c hp,z2z,hl,he,e1]
 have:wR P l [0]=0:=rfl
 omega
theorem xm_le(hP:1≤P)(h1:1≤l.length):xmW P l≤msT P l:=by
 have hne:l≠[]:=fun e=>by rw[e] at h1;simp at h1
 have h:=leR_top hP hne (q22 (l:=l) hP)
 have h2:P*leR P l≤P*(pkV P l+1):=Int.mul_le_mul_of_nonneg_left h (by omega)
 rw[Int.mul_comm P (pkV P l+1)] at h2
 unfold xmW msT msK
 omega
theorem q9m(hP:1≤P)(h1:1≤l.length)(h8:l.length≤8){i:Nat}{s:List Nat}(hi:i<l.length)(hs:s∈pth (2 ^ l.length-1) i):rdL P l s.reverse=leR P l↔wR P l s+gp P l i 0=xmW P l:=by
 rw[rd_wR hP h1 h8 hs hi]
 unfold xmW
 constructor
 ·intro h;rw[h]
 ·intro h
  exact Int.eq_of_mul_eq_mul_left (a:=P) (by omega) (by omega)
theorem xm_min(hP:1≤P)(h1:1≤l.length)(h8:l.length≤8){i:Nat}{s:List Nat}(hi:i<l.length)(hs:s∈pth (2 ^ l.length-1) i):xmW P l≤wR P l s+gp P l i 0:=by
 rw[rd_wR hP h1 h8 hs hi]
 have:=z8x (P:=P) ((q19 h1 h8).1 ⟨i,hi,hs⟩)
 have:=Int.mul_le_mul_of_nonneg_left this (show 0≤P by omega)
 unfold xmW;omega
theorem z97(hP:1≤P)(h1:1≤l.length)(h8:l.length≤8):Fo (msT P l) (fun i=>gp P l i 0) (ent P l (msT P l) (2 ^ l.length-1)) (List.range l.length) (xmW P l) (cntT P l).2.2 ∧
  0≤(cntT P l).1∧(cntT P l).1<l.length∧∃ v,ent P l (msT P l) (2 ^ l.length-1) (cntT P l).1.toNat=some v∧v.1≤msT P l∧v.1+gp P l (cntT P l).1.toNat 0=xmW P l:=by
 have hq:2 ^ l.length-1<256:=by
  have:2 ^ l.length≤256:=Nat.pow_le_pow_right (n:=2) (by omega) h8
  have:=Nat.one_le_two_pow (n:=l.length)
  omega
 have hne:l≠[]:=fun e=>by rw[e] at h1;simp at h1
 have hg:∀ i,0≤gp P l i 0:=fun i=>(q7l (l:=l) hP i 0).1
 have hxm:=xm_le hP h1
 obtain⟨o,ho,hoe⟩:=z8v (P:=P) hne
 obtain⟨i,hi,hs⟩:=(q19 h1 h8 (s:=o.reverse)).2 (by rw[List.reverse_reverse];exact ho)
 have hb:=(q9m hP h1 h8 hi hs).1 (by rw[List.reverse_reverse];exact hoe)
 have hgi:=hg i
 obtain⟨w,hw,hwl⟩:=(z9u (l:=l) (most:=msT P l) hP (2 ^ l.length-1) i hq).b _ hs (by omega)
 have hT:∀ k,mLp P l (msT P l) (2 ^ (l.length-1)) (2 ^ l.length-1) k=prn (msT P l) (ent P l (msT P l) (2 ^ l.length-1) k):=fun k=>z6h h1 h8 k
 have hTi:mLp P l (msT P l) (2 ^ (l.length-1)) (2 ^ l.length-1) i=some w:=by
  rw[hT,hw]
  show(if w.1>msT P l then none else some w)=some w
  rw[if_neg (by omega)]
 have hcf:=clK_fo (P:=P) (l:=l) (T:=mLp P l (msT P l) (2 ^ (l.length-1)) (2 ^ l.length-1)) l.length
 change CF P l _ _ (cntT P l) at hcf
 rcases hcf with⟨_,h⟩|⟨c1,⟨c2,v,hv,hve⟩,c3,c4⟩
 ·rw[h i hi] at hTi;cases hTi
 ·rw[hT] at hv
  obtain⟨hv1,hv2⟩:=z3g hv
  have hx:(cntT P l).2.1=xmW P l:=by
   have a:=c3 i hi w hTi
   obtain⟨s2,hs2,he2⟩:=(z9u (most:=msT P l) hP (2 ^ l.length-1) _ hq).a v hv1
   have b:=xm_min hP h1 h8 (by omega) hs2
   omega
  rw[hx] at hve c3 c4
  refine⟨⟨⟨(cntT P l).1.toNat,List.mem_range.2 (by omega),v,hv1,hv2,hve⟩,fun j hj u hu hu2=>?_,?_⟩,c1,c2,v,hv1,hv2,hve⟩
  ·refine c3 j (List.mem_range.1 hj) u ?_
   rw[hT,hu]
   show(if u.1>msT P l then none else some u)=some u
   rw[if_neg (by omega)]
  ·rw[c4]
   refine q1g fun j hj=>?_
   unfold ctF ciE
   rw[hT]
   cases hu:ent P l (msT P l) (2 ^ l.length-1) j with
   |none=>rfl
   |some u=>
    show(match (if u.1>msT P l then none else some u) with|none=>(0:Int)|some v=>if v.1+gp P l j 0=xmW P l then v.2.1 else 0)=if u.1≤msT P l∧u.1+gp P l j 0=xmW P l then u.2.1 else 0
    by_cases c:u.1>msT P l
    ·rw[if_pos c,if_neg (fun h=>by omega)]
    ·rw[if_neg c]
     dsimp only
     by_cases d:u.1+gp P l j 0=xmW P l
     ·rw[if_pos d,if_pos ⟨by omega,d⟩]
     ·rw[if_neg d,if_neg (fun h=>d h.2)]
theorem z98(hP:1≤P)(h1:1≤l.length)(h8:l.length≤8):(cntT P l).2.2=((bestsL P l).length:Int):=by
 have hq:2 ^ l.length-1<256:=by
  have:2 ^ l.length≤256:=Nat.pow_le_pow_right (n:=2) (by omega) h8
  have:=Nat.one_le_two_pow (n:=l.length)
  omega
 have hg:∀ i,0≤gp P l i 0:=fun i=>(q7l (l:=l) hP i 0).1
 rw[(z97 hP h1 h8).1.count hg (fun i _=>z9u hP _ i hq) (xm_le hP h1)]
 have hperm:(((List.range l.length).flatMap (pth (2 ^ l.length-1))).map List.reverse).Perm (inO (l.length-1)):=by
  refine(List.perm_ext_iff_of_nodup ?_ (z0t _)).2 fun o=>?_
  ·show List.Pairwise (·≠·) _
   rw[List.pairwise_map,List.pairwise_flatMap]
   refine⟨fun i hi=>(pth_nd _ i hq).imp fun h e=>h (z61 e),?_⟩
   refine List.nodup_range.imp fun {i j} hij x hx y hy e=>hij ?_
   have e2:x=y:=z61 e
   subst e2
   obtain⟨r1,e1⟩:=q1i hq hx
   obtain⟨r2,e2⟩:=q1i hq hy
   rw[e1] at e2
   exact(List.cons.inj e2).1
  ·rw[z33 h1,List.mem_map]
   constructor
   ·rintro⟨s,hs,rfl⟩
    obtain⟨i,hi,hs⟩:=List.mem_flatMap.1 hs
    exact(q19 h1 h8).1 ⟨i,List.mem_range.1 hi,hs⟩
   ·intro ho
    obtain⟨i,hi,hs⟩:=(q19 h1 h8 (s:=o.reverse)).2 (by rw[List.reverse_reverse];exact ho)
    exact⟨o.reverse,List.mem_flatMap.2 ⟨i,List.mem_range.2 hi,hs⟩,List.reverse_reverse o⟩
 unfold bestsL
 rw[← List.countP_eq_length_filter,← hperm.countP_eq,List.countP_map,List.countP_flatMap,z1s (α:=Nat)]
 refine q1g fun i hi=>?_
 congr 1
 refine List.countP_congr fun s hs=>?_
 rw[decide_eq_true_iff]
 show _↔decide (rdL P l s.reverse=leR P l)=true
 rw[decide_eq_true_iff,q9m hP h1 h8 (List.mem_range.1 hi) hs]
def bkA(P:Int)(l:List Pt)(most:Int):Nat→Nat→Nat→List Nat
 |0,_,m=>[m]
 |f+1,q,m=>if q=1∧m=0 then [0] else match ent P l most q m with
  |some w=>m::bkA P l most f (q ^^^ 2 ^ m) w.2.2.1.toNat
  |none=>[m]
def bk(P:Int)(l:List Pt)(most:Int)(q m:Nat):List Nat:=bkA P l most 256 q m
theorem z4l:∀ (f q m:Nat),q<f→q<256→bkA P l most f q m=bkA P l most (f+1) q m
 |0,q,m,h,_=>by omega
 |f+1,q,m,h,h2=>by
  rw[bkA,bkA]
  split
  ·rfl
  ·rename_i c
   cases hw:ent P l most q m with
   |none=>rfl
   |some w=>
    dsimp only
    have hb:=z2q h2 hw c
    have hlt:=q2q hb.2.1
    rw[z4l f _ _ (by omega) (by omega)]
theorem bk_one:bk P l most 1 0=[0]:=rfl
theorem bk_eq{q m:Nat}(hq:q<256)(h:¬ (q=1∧m=0)){w:WD}(hw:ent P l most q m=some w):bk P l most q m=m::bk P l most (q ^^^ 2 ^ m) w.2.2.1.toNat:=by
 unfold bk
 rw[z4l 256 q m hq hq,bkA,if_neg h,hw]
theorem bk_ok:∀ (q m:Nat),q<256→∀ w,ent P l most q m=some w→w.1≤most→bk P l most q m∈pth q m∧wR P l (bk P l most q m)=w.1:=by
 intro q
 induction q using Nat.strongRecOn with
 |_ q ih=>
  intro m hq w hw hle
  by_cases c:q=1∧m=0
  ·obtain⟨rfl,rfl⟩:=c
   rw[bk_one]
   have:ent P l most 1 0=some st0:=rfl
   rw[hw] at this
   rw[Option.some.inj this]
   exact⟨by decide,rfl⟩
  ·obtain⟨b1,b2,i,v,b3,b4,b5,b6,b7⟩:=z2q hq hw c
   have hlt:=q2q b2
   have hi:w.2.2.1.toNat=i:=by rw[b6,Int.toNat_natCast]
   obtain⟨p1,p2⟩:=ih _ hlt i (by omega) v b3 b4
   rw[bk_eq hq c hw,hi]
   refine⟨?_,?_⟩
   ·rw[q99 m hq,if_neg c,if_pos ⟨b1,b2⟩]
    exact List.mem_flatMap.2 ⟨i,x6.2 ⟨q62 (N:=8) (by omega) b7,b7⟩,List.mem_map.2 ⟨_,p1,rfl⟩⟩
   ·rw[q8d (by omega) p1,p2,b5]
end
def bestO(P:Int)(l:List Pt):List Nat:=(bk P l (msT P l) (2 ^ l.length-1) (cntT P l).1.toNat).reverse
theorem best_in{P:Int}{l:List Pt}(hP:1≤P)(h1:1≤l.length)(h8:l.length≤8):bestO P l∈bestsL P l:=by
 have hq:2 ^ l.length-1<256:=by
  have:2 ^ l.length≤256:=Nat.pow_le_pow_right (n:=2) (by omega) h8
  have:=Nat.one_le_two_pow (n:=l.length)
  omega
 obtain⟨_,c1,c2,v,hv,hv2,hve⟩:=z97 hP h1 h8
 obtain⟨p1,p2⟩:=bk_ok (2 ^ l.length-1) (cntT P l).1.toNat hq v hv hv2
 have hi:(cntT P l).1.toNat<l.length:=by omega
 refine(z0k h1).2 ⟨(q19 h1 h8).1 ⟨_,hi,p1⟩,(q9m hP h1 h8 hi p1).2 ?_⟩
 rw[p2];exact hve
end Go.Proofs.YtjfafggkkjgpeaaGreatDoor
namespace Go.Proofs.YtjfafggkkjgpeaaGreatDoor
open Go Go.RowKit Ox Ox.Sh Ox.Se
attribute [local irreducible] JC JL JK JW
attribute [local irreducible] ovA stA pkV
theorem and_bit{q m:Nat}(h:q.testBit m=true):q &&& 2 ^ m=2 ^ m:=by
 refine Nat.eq_of_testBit_eq fun i=>?_
 rw[Nat.testBit_and,Nat.testBit_two_pow]
 by_cases e:m=i
 ·subst e;rw[h];simp
 ·rw[decide_eq_false e];simp
theorem q0u{α:Type}(l:List α)(i k:Nat)(a d:α)(hi:i<l.length):(l.set i a).getD k d=if k=i then a else l.getD k d:=by
 rw[List.getD_eq_getElem?_getD,List.getD_eq_getElem?_getD,List.getElem?_set]
 by_cases e:i=k
 ·subst e;rw[if_pos rfl,if_pos hi,if_pos rfl];rfl
 ·rw[if_neg e,if_neg (fun h=>e h.symm)]
structure RV(X:List Int)(i:Nat)(Y:List Int):Prop where
 len:Y.length=X.length
 at_:∀ k,k<X.length→Y.getD k 0=if k<i∨X.length-1-k<i then X.getD (X.length-1-k) 0 else X.getD k 0
theorem RV.start(X:List Int):RV X 0 X:=⟨rfl,fun k _=>by rw[if_neg (by omega)]⟩
theorem RV.step{X Y:List Int}{i j:Nat}(h:RV X i Y)(hij:i<j)(hj:i+j+1=X.length):RV X (i+1) ((Y.set i (Y.getD j 0)).set j (Y.getD i 0)):=by
 refine⟨by rw[List.length_set,List.length_set,h.len],fun k hk=>?_⟩
 have hl:=h.len
 rw[q0u _ j k _ _ (by rw[List.length_set];omega),q0u _ i k _ _ (by omega)]
 have hi2:=h.at_ i (by omega)
 have hj2:=h.at_ j (by omega)
 rw[if_neg (by omega)] at hi2 hj2
 by_cases e1:k=j
 ·subst e1
  rw[if_pos rfl,if_pos (by omega),hi2,show X.length-1-k=i by omega]
 ·rw[if_neg e1]
  by_cases e2:k=i
  ·subst e2
   rw[if_pos rfl,if_pos (by omega),hj2,show X.length-1-k=j by omega]
  ·rw[if_neg e2,h.at_ k hk]
   by_cases c:k<i∨X.length-1-k<i
   ·rw[if_pos c,if_pos (by omega)]
   ·rw[if_neg c,if_neg (by omega)]
theorem RV.done{X Y:List Int}{i:Nat}(h:RV X i Y)(hi:X.length≤2*i+1):Y=X.reverse:=by
 refine List.ext_getElem (by rw[List.length_reverse,h.len]) fun k h1 h2=>?_
 have hk:k<X.length:=by rw[← h.len];exact h1
 have:=h.at_ k hk
 rw[k0 Y h1] at this
 rw[this,List.getElem_reverse]
 by_cases c:k<i∨X.length-1-k<i
 ·rw[if_pos c,k0 X (by omega)]
 ·rw[if_neg c,k0 X hk]
  congr 1;omega
set_option maxHeartbeats 8000000 in
theorem fn33(P:Int)(l:List Pt)(hz:seE P l=0):Ox.Fn Tryz.prog 33 (.acons (vH P l) .anil) (·=vL (iL (bestO P l))):=by
 obtain⟨hP,h1,h8,hl⟩:=q1h.1 hz
 have h0:=Nat.one_le_two_pow (n:=l.length)
 have h256:2 ^ l.length≤256:=Nat.pow_le_pow_right (n:=2) (by omega) h8
 refine Ox.Fn.intro xok Tryz.func33 rfl Tryz.call33 (Nat.le_of_ble_eq_true rfl) (fun E M0 up=>?_)
 refine z8 ?_
 (repeat (first|refine zs rfl ?_|refine zg rfl rfl rfl ?_|refine zd ?_|refine q8 ?_|refine q7 ?_|refine zmo mpW rfl rfl rfl rfl ?_|refine zmi mpW rfl rfl rfl rfl ?_|refine zmu mpW rfl rfl rfl rfl ?_|refine zmd mpW rfl rfl rfl ?_|refine zmm mpW rfl ?_|refine zne eqK rfl rfl rfl ?_))
 refine JK.inl [8,0] rfl rfl trivial Tryz.func72 rfl Tryz.call72 (Nat.le_of_ble_eq_true rfl) rfl fun M1 up1=>?_
 refine q9j (fn:=Tryz.f72) rfl ?_
 show JK _ _ _ ⟨[(0,vH P l)],[(0,.fr 0 [(8,vH P l),(0,vH P l)])],1⟩
 refine z6y (rg:=8) hz fun es clk htg=>?_
 (repeat (first|refine zs rfl ?_|refine zg rfl rfl rfl ?_|refine zd ?_|refine q8 ?_|refine q7 ?_|refine zmo mpW rfl rfl rfl rfl ?_|refine zmi mpW rfl rfl rfl rfl ?_|refine zmu mpW rfl rfl rfl rfl ?_|refine zmd mpW rfl rfl rfl ?_|refine zmm mpW rfl ?_|refine zne eqK rfl rfl rfl ?_))
 refine JK.inl [3,0] rfl rfl trivial Tryz.func73 rfl Tryz.call73 (Nat.le_of_ble_eq_true rfl) rfl fun M2 up2=>?_
 refine q9j (fn:=Tryz.f73) rfl ?_
 show JK _ _ _ ⟨[(0,vH P l),(1,.lf (.mp 1))],[(2,.fr 0 [(3,.lf (.mp 1)),(0,vH P l)]),(1,.map kyT wyT es clk)],3⟩
 refine z03 (rg:=3) hz (tab_bd hP h1 h8) htg ?_
 have c77:=fn37 P l h8
 have c95:=fn74
 obtain⟨_,e1,e2,v,hv,hv2,hve⟩:=z97 hP.1 h1 h8
 change JK _ _ _ ⟨(13,.tup (.acons (vI (cntT P l).1) (.acons (vI (cntT P l).2.2) .anil)))::_,_,_⟩
 have hbO:bestO P l=(bk P l (msT P l) (2 ^ l.length-1) (cntT P l).1.toNat).reverse:=rfl
 obtain⟨m0,hm0⟩:∃ m:Nat,(cntT P l).1=(m:Int):=⟨(cntT P l).1.toNat,by omega⟩
 rw[hm0,Int.toNat_natCast] at hbO hv hve
 rw[hm0] at e1 e2 ⊢
 generalize (cntT P l).2.2=c3
 have hT:∀ q m,q % 2=1→q<2 ^ l.length→∀ w,ent P l (msT P l) q m=some w→w.1≤msT P l→mLp P l (msT P l) (2 ^ (l.length-1)) q m=some w:=fun q m ho hq w hw hle=>by
  rw[z6g h8 h1 m ho hq,hw]
  show(if w.1>msT P l then none else some w)=some w
  rw[if_neg (by omega)]
 have hbl8:(bk P l (msT P l) (2 ^ l.length-1) m0).length≤8:=by
  obtain⟨_,_,h3,h4⟩:=(z1z (by omega)).1 (bk_ok (2 ^ l.length-1) m0 (by omega) v hv hv2).1
  exact Nat.le_trans (z0e h3 fun x hx=>q82.1 ((h4 x).1 hx)) h8
 have hA2:2 ^ l.length-1<2 ^ l.length:=by omega
 have hAo:=j0w h1
 generalize 2 ^ l.length-1=A at c77 hbO hv hA2 hAo hbl8
 (repeat (first|refine zs rfl ?_|refine zg rfl rfl rfl ?_|refine zd ?_|refine q8 ?_|refine q7 ?_|refine zmo mpW rfl rfl rfl rfl ?_|refine zmi mpW rfl rfl rfl rfl ?_|refine zmu mpW rfl rfl rfl rfl ?_|refine zmd mpW rfl rfl rfl ?_|refine zmm mpW rfl ?_|refine zne eqK rfl rfl rfl ?_|refine zc rfl (c77) rfl rfl ?_|refine ze rfl (c77) rfl ?_|refine zk rfl rfl (fun _=>c77) rfl rfl ?_))
 refine JK.ghost 7 3 (.int .i64) rfl ?_
 refine JK.loop (σ:=Nat×Nat×List Nat) (fun q=>⟨[(0,vH P l),(3,.lf (.mp 1)),(6,.lf (.optr 2 [])),(7,.lf (.osl 3))],[(1,.map kyT wyT es clk),(2,.cell kyT (.val kyT (ky q.1 q.2.1))),(3,.sl 3 (.int .i64) (iL q.2.2))],4⟩)
  (fun q=>q.1 % 2=1∧q.1<2 ^ l.length∧(∃ w,ent P l (msT P l) q.1 q.2.1=some w∧w.1≤msT P l)∧q.2.2++bk P l (msT P l) q.1 q.2.1=bk P l (msT P l) A m0) (fun q=>q.1) (A,m0,[]) ⟨hAo,hA2,⟨v,hv,hv2⟩,rfl⟩ (by dsimp only;(exact z6 (by conv=>lhs;reduce))) fun q hq=>?_
 obtain⟨q,m,O⟩:=q
 obtain⟨q1,q2,⟨w,hw,hwl⟩,q4⟩:=hq
 dsimp only at q1 q2 hw q4 ⊢
 have hil:(iL O).length=O.length:=q2t O
 have hO8:O.length≤8:=by
  have:=congrArg List.length q4
  rw[List.length_append] at this
  omega
 have hT1:=hT q m q1 q2 w hw hwl
 obtain⟨hh,hg⟩:=htg.some hT1
 (repeat (first|refine zs rfl ?_|refine zg rfl rfl rfl ?_|refine q8 ?_|refine q7 ?_|refine zmo mpW rfl rfl rfl rfl ?_|refine zmi mpW rfl rfl rfl rfl ?_|refine zmu mpW rfl rfl rfl rfl ?_|refine zmd mpW rfl rfl rfl ?_|refine zmm mpW rfl ?_|refine zne eqK rfl rfl rfl ?_))
 refine q7e xk (Tryz.f33.body.getD .skip) ⟨[(0,vH P l),(3,.lf (.mp 1)),(6,.lf (.optr 2 [])),(7,.lf (.osl 3)),(22,vB (!Ty.eqB kyT (ky q m) (1,0,())))],[(1,.map kyT wyT es clk),(2,.cell kyT (.val kyT (ky q m))),(3,.sl 3 (.int .i64) (iL O))],4⟩ rfl 3 rfl ?_ ?_
 ·(refine k7 0 xk rfl rfl ?_;refine k8 1 [] xk ?_ ?_;(focus (repeat (first|exact StF.nil|refine x4 rfl rfl rfl ?_)));refine(BrF.one rfl rfl ?_ BrF.nil);(· (first|refine r7 xk rfl rfl ?_|refine o5 xk rfl rfl ?_|refine JL.M0 xk rfl ?_|refine x3 mpW rfl rfl rfl rfl ?_|refine y8 mpW rfl ?_|refine p8 eqK rfl rfl rfl ?_|refine q3c rfl (c95) rfl trivial rfl ?_|refine q3d rfl (c95) rfl (fun r hr=>?_);subst hr);refine y6 ?_;refine k8 2 [] xk ?_ ?_;(focus (repeat (first|exact StF.nil|refine x4 rfl rfl rfl ?_)));refine(BrF.one rfl rfl ?_ BrF.nil);(· (first|refine r7 xk rfl rfl ?_|refine o5 xk rfl rfl ?_|refine JL.M0 xk rfl ?_|refine x3 mpW rfl rfl rfl rfl ?_|refine y8 mpW rfl ?_|refine p8 eqK rfl rfl rfl ?_|refine q3c rfl (c95) rfl trivial rfl ?_|refine q3d rfl (c95) rfl (fun r hr=>?_);subst hr);refine y6 ?_;refine q0p xk StF.nil ?_;((exact z6 (by conv=>lhs;reduce))))))
 refine z5 rfl (fun hc=>?_) (fun hc=>?_)
 ·have hne:¬ (q=1∧m=0):=fun h=>by
   obtain⟨rfl,rfl⟩:=h
   cases hc
  obtain⟨b1,b2,i,u,b3,b4,b5,b6,b7⟩:=z2q (by omega) hw hne
  have hm8:m<8:=q62 (N:=8) (by omega) b2
  have hww:(2:Int) ^ m=((2 ^ m:Nat):Int):=by push_cast;rfl
  have hwp:2 ^ m<256:=Nat.pow_lt_pow_right (a:=2) (by omega) hm8
  have hwb:0≤(2:Int) ^ ((m:Int)).toNat∧(2:Int) ^ ((m:Int)).toNat≤65536:=by rw[Int.toNat_natCast,hww];exact⟨Int.natCast_nonneg _,Int.ofNat_le.2 (show 2 ^ m≤65536 by omega)⟩
  have hxe:(((q:Int).toNat ^^^ ((q:Int).toNat &&& ((1:Int)*2 ^ ((m:Int)).toNat).toNat):Nat):Int)=((q ^^^ 2 ^ m:Nat):Int):=by
   rw[Int.toNat_natCast,Int.toNat_natCast,Int.one_mul,hww,Int.toNat_natCast,and_bit b2]
  have hlt:=q2q b2
  have hcell:(((((q:Int).toNat ^^^ ((q:Int).toNat &&& ((1:Int)*2 ^ ((m:Int)).toNat).toNat):Nat):Int),(mGet (kt:=kyT) (vt:=wyT) es (ky q m) wyT.dflt).2.2.1,()):KD)=ky (q ^^^ 2 ^ m) i:=by
   rw[hxe,hg,b6]
  have hI:(q ^^^ 2 ^ m) % 2=1∧q ^^^ 2 ^ m<2 ^ l.length∧(∃ w,ent P l (msT P l) (q ^^^ 2 ^ m) i=some w∧w.1≤msT P l)∧(O++[m])++bk P l (msT P l) (q ^^^ 2 ^ m) i=bk P l (msT P l) A m0:=by
   refine⟨(q79 b1).2 q1,by omega,⟨u,b3,b4⟩,?_⟩
   rw[bk_eq (by omega) hne hw,b6,Int.toNat_natCast] at q4
   rw[← q4]
   simp
  (repeat (first|refine zs rfl ?_|refine zg rfl rfl rfl ?_|refine q8 ?_|refine q7 ?_|refine zmo mpW rfl rfl rfl rfl ?_|refine zmi mpW rfl rfl rfl rfl ?_|refine zmu mpW rfl rfl rfl rfl ?_|refine zmd mpW rfl rfl rfl ?_|refine zmm mpW rfl ?_|refine zne eqK rfl rfl rfl ?_))
  refine q9u xk (Tryz.f33.body.getD .skip) rfl 12 rfl ?_
  (refine j0 0 xk rfl rfl ?_;refine j0 2 xk rfl rfl ?_;refine j0 6 xk rfl rfl ?_;refine k7 1 xk rfl rfl ?_;refine k7 3 xk rfl rfl ?_;refine k7 4 xk rfl rfl ?_;refine k7 5 xk rfl rfl ?_;refine k7 7 xk rfl rfl ?_;refine k8 8 [] xk ?_ ?_;(focus (repeat (first|exact StF.nil|refine x4 rfl rfl rfl ?_)));refine(BrF.one rfl rfl ?_ BrF.nil);(· (first|refine r7 xk rfl rfl ?_|refine o5 xk rfl rfl ?_|refine JL.M0 xk rfl ?_|refine x3 mpW rfl rfl rfl rfl ?_|refine y8 mpW rfl ?_|refine p8 eqK rfl rfl rfl ?_);refine y6 ?_;refine j0 9 xk rfl rfl ?_;refine k8 10 [] xk ?_ ?_;(focus (repeat (first|exact StF.nil|refine x4 rfl rfl rfl ?_)));refine(BrF.one rfl rfl ?_ BrF.nil);(· (first|refine r7 xk rfl rfl ?_|refine o5 xk rfl rfl ?_|refine JL.M0 xk rfl ?_|refine x3 mpW rfl rfl rfl rfl ?_|refine y8 mpW rfl ?_|refine p8 eqK rfl rfl rfl ?_);refine y6 ?_;refine k8 11 [] xk ?_ ?_;(focus (repeat (first|exact StF.nil|refine x4 rfl rfl rfl ?_)));refine(BrF.one rfl rfl ?_ BrF.nil);(· (first|refine r7 xk rfl rfl ?_|refine o5 xk rfl rfl ?_|refine JL.M0 xk rfl ?_|refine x3 mpW rfl rfl rfl rfl ?_|refine y8 mpW rfl ?_|refine p8 eqK rfl rfl rfl ?_);refine y6 ?_;refine q0p xk StF.nil ?_;(((repeat (first|refine zs rfl ?_|refine zg rfl rfl rfl ?_|refine zd ?_|refine q8 ?_|refine q7 ?_|refine zmo mpW rfl rfl rfl rfl ?_|refine zmi mpW rfl rfl rfl rfl ?_|refine zmu mpW rfl rfl rfl rfl ?_|refine zmd mpW rfl rfl rfl ?_|refine zmm mpW rfl ?_|refine zne eqK rfl rfl rfl ?_));refine⟨(q ^^^ 2 ^ m,i,O++[m]),?_,hI,hlt⟩;dsimp only;rw[z86];(refine q9t (by conv=>lhs;reduce) ?_ ?_ ?_ ?_ rfl<;>(repeat' (first|exact trivial|exact rfl|refine And.intro ?_ ?_|exact Nat.le_of_ble_eq_true rfl|refine q7g ?_|(refine congrArg (fun z:Int=>some (AV.val (.int .i64) z)) ?_;push_cast;omega)|exact congrArg (fun z:KD=>some (HO.cell kyT (.val kyT z))) hcell)))))))))
 ·have heq:q=1∧m=0:=by
   have h2:Ty.eqB kyT (ky q m) (1,0,())=true:=by
    cases h:Ty.eqB kyT (ky q m) (1,0,())
    ·rw[h] at hc;cases hc
    ·rfl
   exact z82.1 (u4.1 h2)
  obtain⟨rfl,rfl⟩:=heq
  rw[bk_one] at q4
  have hq4:iL O++[0]=iL (bk P l (msT P l) A m0):=by rw[← q4];simp
  (repeat (first|refine zs rfl ?_|refine zg rfl rfl rfl ?_|refine zd ?_|refine q8 ?_|refine q7 ?_|refine zmo mpW rfl rfl rfl rfl ?_|refine zmi mpW rfl rfl rfl rfl ?_|refine zmu mpW rfl rfl rfl rfl ?_|refine zmd mpW rfl rfl rfl ?_|refine zmm mpW rfl ?_|refine zne eqK rfl rfl rfl ?_))
  rw[hq4]
  have hX8:(iL (bk P l (msT P l) A m0)).length≤8:=by rw[q2t];exact hbl8
  have hX1:1≤(iL (bk P l (msT P l) A m0)).length:=by rw[← hq4];simp
  have hfinal:(iL (bk P l (msT P l) A m0)).reverse=iL (bestO P l):=by rw[hbO];exact List.map_reverse.symm
  generalize iL (bk P l (msT P l) A m0)=X at hX8 hX1 hfinal ⊢
  refine JK.weakO (s':=⟨[(7,.lf (.osl 0)),(42,.lf (.osl 0))],[(0,.sl 3 (.int .i64) X)],1⟩) (by(exact z6 (by conv=>lhs;reduce))) ?_
  refine JK.inl [7] rfl rfl trivial Tryz.func75 rfl Tryz.call75 (Nat.le_of_ble_eq_true rfl) rfl fun M3 up3=>?_
  (repeat (first|refine zs rfl ?_|refine zg rfl rfl rfl ?_|refine zd ?_|refine q8 ?_|refine q7 ?_|refine zmo mpW rfl rfl rfl rfl ?_|refine zmi mpW rfl rfl rfl rfl ?_|refine zmu mpW rfl rfl rfl rfl ?_|refine zmd mpW rfl rfl rfl ?_|refine zmm mpW rfl ?_|refine zne eqK rfl rfl rfl ?_))
  refine JK.loop (σ:=Nat×Nat×List Int) (fun q=>⟨[(0,.lf (.osl 0)),(2,vI (q.1:Int)),(3,vI (q.2.1:Int))],[(1,.fr 0 [(7,.lf (.osl 0))]),(0,.sl 3 (.int .i64) q.2.2)],2⟩)
   (fun q=>RV X q.1 q.2.2∧(q.1≤q.2.1+1)∧q.1+q.2.1+1=X.length) (fun q=>q.2.1) (0,X.length-1,X) ⟨RV.start X,by omega,by dsimp only;omega⟩ ?_ fun q hq=>?_
  ·dsimp only
   rw[show((X.length-1:Nat):Int)=(X.length:Int)-1 by omega]
   (exact z6 (by conv=>lhs;reduce))
  obtain⟨i,j,Y⟩:=q
  obtain⟨r1,r2,r3⟩:=hq
  dsimp only at r1 r2 r3 ⊢
  have hYl:=r1.len
  (repeat (first|refine zs rfl ?_|refine zg rfl rfl rfl ?_|refine zd ?_|refine q8 ?_|refine q7 ?_|refine zmo mpW rfl rfl rfl rfl ?_|refine zmi mpW rfl rfl rfl rfl ?_|refine zmu mpW rfl rfl rfl rfl ?_|refine zmd mpW rfl rfl rfl ?_|refine zmm mpW rfl ?_|refine zne eqK rfl rfl rfl ?_))
  refine z5 rfl (fun hd=>?_) (fun hd=>?_)
  ·(simp only[↓cdL] at hd;try simp only[Ty.dflt,Int.toNat_natCast] at hd)
   have hs:=r1.step (j:=j) (by omega) r3
   have hst1:(Y.set i (Y.getD j 0)).length=Y.length:=List.length_set
   have hst2:(Y.set j (Y.getD i 0)).length=Y.length:=List.length_set
   have hcm:(Y.set j (Y.getD i 0)).set i (Y.getD j 0)=(Y.set i (Y.getD j 0)).set j (Y.getD i 0):=List.set_comm _ _ (by omega)
   (repeat (first|refine zs rfl ?_|refine zg rfl rfl rfl ?_|refine q8 ?_|refine q7 ?_|refine zmo mpW rfl rfl rfl rfl ?_|refine zmi mpW rfl rfl rfl rfl ?_|refine zmu mpW rfl rfl rfl rfl ?_|refine zmd mpW rfl rfl rfl ?_|refine zmm mpW rfl ?_|refine zne eqK rfl rfl rfl ?_))
   refine q9v xk (Tryz.f75.body.getD .skip) ⟨[(0,.lf (.osl 0)),(2,vI (i:Int)),(3,vI (j:Int))],[(1,.fr 0 [(7,.lf (.osl 0))]),(0,.sl 3 (.int .i64) ((Y.set ((i:Int)).toNat (Y.getD ((j:Int)).toNat 0)).set ((j:Int)).toNat (Y.getD ((i:Int)).toNat 0)))],2⟩ rfl 16 rfl ?_ ?_
   ·(refine j0 0 xk rfl rfl ?_;refine j0 1 xk rfl rfl ?_;refine j0 2 xk rfl rfl ?_;refine j0 3 xk rfl rfl ?_;refine j0 4 xk rfl rfl ?_;refine j0 5 xk rfl rfl ?_;refine j0 6 xk rfl rfl ?_;refine j0 8 xk rfl rfl ?_;refine j0 9 xk rfl rfl ?_;refine j0 10 xk rfl rfl ?_;refine k7 7 xk rfl rfl ?_;refine k7 11 xk rfl rfl ?_;refine k7 12 xk rfl rfl ?_;refine k8 13 [] xk ?_ ?_;(focus (repeat (first|exact StF.nil|refine x4 rfl rfl rfl ?_)));refine(BrF.one rfl rfl ?_ BrF.nil);(· (first|refine r7 xk rfl rfl ?_|refine o5 xk rfl rfl ?_|refine JL.M0 xk rfl ?_|refine x3 mpW rfl rfl rfl rfl ?_|refine y8 mpW rfl ?_|refine p8 eqK rfl rfl rfl ?_);refine y6 ?_;refine j0 14 xk rfl rfl ?_;refine k8 15 [] xk StF.nil (BrF.one rfl rfl ?_ BrF.nil);(· (first|refine r7 xk rfl rfl ?_|refine o5 xk rfl rfl ?_|refine JL.M0 xk rfl ?_|refine x3 mpW rfl rfl rfl rfl ?_|refine y8 mpW rfl ?_|refine p8 eqK rfl rfl rfl ?_);refine y6 ?_;refine q0p xk StF.nil ?_;(((refine q9t (by conv=>lhs;reduce) ?_ ?_ ?_ ?_ rfl<;>(repeat' (first|exact trivial|exact rfl|refine And.intro ?_ ?_|exact Nat.le_of_ble_eq_true rfl|refine q7g ?_|(refine congrArg (fun z:Int=>some (AV.val (.int .i64) z)) ?_;push_cast;omega)|exact congrArg (fun z:List Int=>some (HO.sl 3 (.int .i64) z)) hcm))))))))
   ·(repeat (first|refine zs rfl ?_|refine zg rfl rfl rfl ?_|refine zd ?_|refine q8 ?_|refine q7 ?_|refine zmo mpW rfl rfl rfl rfl ?_|refine zmi mpW rfl rfl rfl rfl ?_|refine zmu mpW rfl rfl rfl rfl ?_|refine zmd mpW rfl rfl rfl ?_|refine zmm mpW rfl ?_|refine zne eqK rfl rfl rfl ?_))
    refine⟨(i+1,j-1,(Y.set i (Y.getD j 0)).set j (Y.getD i 0)),?_,⟨hs,by dsimp only;omega,by dsimp only;omega⟩,by dsimp only;omega⟩
    dsimp only
    rw[show((j-1:Nat):Int)=(j:Int)-1 by omega]
    (exact z6 (by conv=>lhs;reduce))
  ·(simp only[↓cdL] at hd;try simp only[Ty.dflt,Int.toNat_natCast] at hd)
   have hY:=r1.done (by omega)
   rw[hY,hfinal]
   (repeat (first|refine zs rfl ?_|refine zg rfl rfl rfl ?_|refine zd ?_|refine q8 ?_|refine q7 ?_|refine zmo mpW rfl rfl rfl rfl ?_|refine zmi mpW rfl rfl rfl rfl ?_|refine zmu mpW rfl rfl rfl rfl ?_|refine zmd mpW rfl rfl rfl ?_|refine zmm mpW rfl ?_|refine zne eqK rfl rfl rfl ?_))
   refine JK.done (inlQ.nor rfl rfl rfl rfl ?_)
   (repeat (first|refine zs rfl ?_|refine zg rfl rfl rfl ?_|refine zd ?_|refine q8 ?_|refine q7 ?_|refine zmo mpW rfl rfl rfl rfl ?_|refine zmi mpW rfl rfl rfl rfl ?_|refine zmu mpW rfl rfl rfl rfl ?_|refine zmd mpW rfl rfl rfl ?_|refine zmm mpW rfl ?_|refine zne eqK rfl rfl rfl ?_))
   refine⟨.inl rfl,_,_,rfl,trivial,?_⟩
   rfl
end Go.Proofs.YtjfafggkkjgpeaaGreatDoor
namespace Go.Proofs.YtjfafggkkjgpeaaGreatDoor
open Go Go.RowKit Ox Ox.Sh Ox.Se
attribute [local irreducible] JC JL JK JW
attribute [local irreducible] ovA stA pkV
theorem fn51(P:Int)(l:List Pt):Ox.Fn Tryz.prog 51 (.acons (vS P l) .anil) (·=vT2 (countI P l) (seE P l)):=by
 refine Ox.Fn.intro xok Tryz.func51 rfl Tryz.call51 (Nat.le_of_ble_eq_true rfl) (fun E M0 up=>?_)
 refine z8 ?_
 have c61:=fn32 P l
 unfold vOp at c61
 by_cases hz:seE P l=0
 ·obtain⟨hP,h1,h8,hl⟩:=q1h.1 hz
  rw[if_pos hz,hz] at c61
  have c84:=fn126 P l hz
  rw[z98 hP.1 h1 h8] at c84
  have e1:countI P l=((bestsL P l).length:Int):=by unfold countI;rw[if_pos hz]
  rw[e1,hz]
  generalize (bestsL P l).length=n at c84
  (repeat (first|refine zs rfl ?_|refine zg rfl rfl rfl ?_|refine zd ?_|refine q8 ?_|refine q7 ?_|refine zc rfl (c61) rfl rfl ?_|refine ze rfl (c61) rfl ?_|refine zk rfl rfl (fun _=>c61) rfl rfl ?_|refine zc rfl (c84) rfl rfl ?_|refine ze rfl (c84) rfl ?_|refine zk rfl rfl (fun _=>c84) rfl rfl ?_))
  refine z5 rfl (fun h=>absurd h (by decide)) (fun _=>?_)
  (repeat (first|refine zs rfl ?_|refine zg rfl rfl rfl ?_|refine zd ?_|refine q8 ?_|refine q7 ?_|refine zc rfl (c84) rfl rfl ?_|refine ze rfl (c84) rfl ?_|refine zk rfl rfl (fun _=>c84) rfl rfl ?_))
  refine⟨.inl rfl,_,_,rfl,trivial,?_⟩
  rfl
 ·have e1:countI P l=0:=by unfold countI;rw[if_neg hz]
  rw[e1]
  rw[if_neg hz] at c61
  generalize seE P l=z at hz c61 ⊢
  (repeat (first|refine zs rfl ?_|refine zg rfl rfl rfl ?_|refine zd ?_|refine q8 ?_|refine q7 ?_|refine zc rfl (c61) rfl rfl ?_|refine ze rfl (c61) rfl ?_|refine zk rfl rfl (fun _=>c61) rfl rfl ?_))
  refine z5 rfl (fun _=>?_) (fun h=>?_)
  ·(repeat (first|refine zs rfl ?_|refine zg rfl rfl rfl ?_|refine zd ?_|refine q8 ?_|refine q7 ?_))
   refine⟨.inl rfl,_,_,rfl,trivial,?_⟩
   rfl
  ·(simp only[↓cdL] at h;try simp only[Ty.dflt,Int.toNat_natCast] at h)
   omega
def bstI(P:Int)(l:List Pt):List Int:=if seE P l=0 then iL (bestO P l) else []
def lstI(P:Int)(l:List Pt):Int:=if seE P l=0 then leR P l else 0
abbrev vB3(a:List Int)(b c:Int):AV:=.tup (.acons (vL a) (.acons (vI b) (.acons (vI c) .anil)))
theorem best_has{P:Int}{l:List Pt}(hP:1≤P)(h1:1≤l.length)(h8:l.length≤8):(bestO P l).length=l.length∧(∀ n∈bestO P l,n<l.length)∧bestO P l≠[]∧rdL P l (bestO P l)=leR P l:=by
 obtain⟨h2,h3⟩:=(z0k h1).1 (best_in hP h1 h8)
 have:=allO_has h1 h2
 exact⟨this.1,this.2.1,this.2.2.1,h3⟩
theorem fn15(P:Int)(l:List Pt):Ox.Fn Tryz.prog 15 (.acons (vS P l) .anil) (·=vB3 (bstI P l) (lstI P l) (seE P l)):=by
 refine Ox.Fn.intro xok Tryz.func15 rfl Tryz.call15 (Nat.le_of_ble_eq_true rfl) (fun E M0 up=>?_)
 refine z8 ?_
 have c61:=fn32 P l
 unfold vOp at c61
 by_cases hz:seE P l=0
 ·obtain⟨hP,h1,h8,hl⟩:=q1h.1 hz
  rw[if_pos hz,hz] at c61
  have c74:=fn33 P l hz
  obtain⟨b1,b2,b3,b4⟩:=best_has hP.1 h1 h8
  have c71:=fn25 P l (bestO P l) hz b2 (by omega)
  rw[← rdL_eq b3,b4] at c71
  have e1:bstI P l=iL (bestO P l):=by unfold bstI;rw[if_pos hz]
  have e2:lstI P l=leR P l:=by unfold lstI;rw[if_pos hz]
  rw[e1,e2,hz]
  have hil:(iL (bestO P l)).length=l.length:=by rw[q2t];exact b1
  generalize iL (bestO P l)=B at c74 c71 hil ⊢
  (repeat (first|refine zs rfl ?_|refine zg rfl rfl rfl ?_|refine zd ?_|refine q8 ?_|refine q7 ?_|refine zc rfl (c61) rfl rfl ?_|refine ze rfl (c61) rfl ?_|refine zk rfl rfl (fun _=>c61) rfl rfl ?_|refine zc rfl (c74) rfl rfl ?_|refine ze rfl (c74) rfl ?_|refine zk rfl rfl (fun _=>c74) rfl rfl ?_))
  refine z5 rfl (fun h=>absurd h (by decide)) (fun _=>?_)
  have hrep:(List.replicate ((B.length:Int)).toNat (Ty.dflt (.int .i64))).length=B.length:=by simp
  (repeat (first|refine zs rfl ?_|refine zg rfl rfl rfl ?_|refine q8 ?_|refine q7 ?_|refine zc rfl (c74) rfl rfl ?_|refine ze rfl (c74) rfl ?_|refine zk rfl rfl (fun _=>c74) rfl rfl ?_))
  (refine j1f [0] [25,26,27] rfl ?_)
  (repeat (first|refine zs rfl ?_|refine zg rfl rfl rfl ?_|refine zd ?_|refine q8 ?_|refine q7 ?_|refine zc rfl (c71) rfl rfl ?_|refine ze rfl (c71) rfl ?_|refine zk rfl rfl (fun _=>c71) rfl rfl ?_))
  refine⟨.inl rfl,_,_,rfl,trivial,?_⟩
  rfl
 ·have e1:bstI P l=[]:=by unfold bstI;rw[if_neg hz]
  have e2:lstI P l=0:=by unfold lstI;rw[if_neg hz]
  rw[e1,e2]
  rw[if_neg hz] at c61
  generalize seE P l=z at hz c61 ⊢
  (repeat (first|refine zs rfl ?_|refine zg rfl rfl rfl ?_|refine zd ?_|refine q8 ?_|refine q7 ?_|refine zc rfl (c61) rfl rfl ?_|refine ze rfl (c61) rfl ?_|refine zk rfl rfl (fun _=>c61) rfl rfl ?_))
  refine z5 rfl (fun _=>?_) (fun h=>?_)
  ·(repeat (first|refine zs rfl ?_|refine zg rfl rfl rfl ?_|refine zd ?_|refine q8 ?_|refine q7 ?_))
   refine⟨.inl rfl,_,_,rfl,trivial,?_⟩
   rfl
  ·(simp only[↓cdL] at h;try simp only[Ty.dflt,Int.toNat_natCast] at h)
   omega
end Go.Proofs.YtjfafggkkjgpeaaGreatDoor
namespace Go.Proofs.YtjfafggkkjgpeaaGreatDoor
open Go Go.RowKit Ox Ox.Sh Ox.Se
def bandL(P m:Int)(cs:List Int):List Pt:=cs.map fun c=>(m,c*P,())
def sumC(cs:List Int)(k:Nat):Int:=sm (fun n=>cs.getD n 0) (List.range k)
variable {P m:Int}{cs:List Int}
theorem q2i:(bandL P m cs).length=cs.length:=by simp[bandL]
theorem z4n{i:Nat}(h:i<cs.length):(bandL P m cs).getD i zP=(m,cs.getD i 0*P,()):=by
 unfold bandL
 rw[List.getD_eq_getElem?_getD,List.getElem?_map,List.getD_eq_getElem?_getD,List.getElem?_eq_getElem h];rfl
theorem band_a{i:Nat}(h:i<cs.length):aT (bandL P m cs) i=m:=by unfold aT;rw[z4n h]
theorem j0n{i:Nat}(h:i<cs.length):lO (bandL P m cs) i=cs.getD i 0*P:=by unfold lO;rw[z4n h]
theorem j0o(hm:0≤m∧m<P){i j:Nat}(hi:i<cs.length)(hj:j<cs.length):gp P (bandL P m cs) i j=0:=by
 unfold gp eN
 rw[band_a hi,band_a hj,j0n hi,Int.add_mul_emod_self_right,Int.emod_eq_of_lt hm.1 hm.2,Int.sub_self,Int.zero_emod]
theorem z4m(hm:0≤m∧m<P):∀ (t:List Nat) (h:Nat),h<cs.length→(∀ x∈t,x<cs.length)→wst P (bandL P m cs) h t=0
 |[],_,_,_=>rfl
 |j::r,i,hi,ht=>by
  have hj:=ht j List.mem_cons_self
  rw[wst,j0o hm hi hj,z4m hm r j hj fun x hx=>ht x (List.mem_cons_of_mem _ hx)];rfl
theorem band_sm:sm (lO (bandL P m cs)) (List.range cs.length)=P*sumC cs cs.length:=by
 unfold sumC
 rw[← z6n]
 exact q2x fun n hn=>by rw[j0n (List.mem_range.1 hn),Int.mul_comm]
theorem band_rd(hP:1≤P)(hm:0≤m∧m<P){h:Nat}{t:List Nat}(ho:(h::t).Perm (List.range cs.length)):rd P (bandL P m cs) h t=sumC cs cs.length:=by
 have hlt:∀ x∈h::t,x<cs.length:=fun x hx=>List.mem_range.1 (ho.mem_iff.1 hx)
 have hh:=hlt h List.mem_cons_self
 unfold rd tot
 rw[z4m hm (t++[h]) h hh (fun x hx=>by
  rcases List.mem_append.1 hx with hx|hx
  ·exact hlt x (List.mem_cons_of_mem _ hx)
  ·rw[List.mem_singleton] at hx;exact hx▸hh),q4c ho,band_sm,Int.add_zero,Int.mul_ediv_cancel_left _ (by omega)]
theorem band_ov(hP:1≤P)(u:Int):ov P (bandL P m cs) u=sumC cs cs.length:=by
 unfold ov sumC
 rw[q2i]
 refine q2x fun n hn=>?_
 have hn:=List.mem_range.1 hn
 unfold ov1
 rw[j0n hn,Int.mul_ediv_cancel _ (by omega),Int.mul_emod_left,if_neg (by have:=(p7 hP (u-aT (bandL P m cs) n)).1;omega),Int.add_zero]
theorem band_se(hP:1≤P∧P≤1000)(hm:0≤m∧m<P)(h1:1≤cs.length)(h8:cs.length≤8)(hc:∀ c∈cs,1≤c∧c*P≤10000):seE P (bandL P m cs)=0:=by
 refine q1h.2 ⟨hP,by rw[q2i];exact h1,by rw[q2i];exact h8,fun s hs=>?_⟩
 obtain⟨c,hcs,rfl⟩:=List.mem_map.1 hs
 have h:=hc c hcs
 refine⟨hm,?_,h.2⟩
 have:=Int.mul_le_mul (a:=1) (b:=1) (c:=c) (d:=P) h.1 hP.1 (by omega) (by omega)
 show 1≤c*P
 omega
theorem band_all(hP:1≤P∧P≤1000)(hm:0≤m∧m<P)(h1:1≤cs.length)(h8:cs.length≤8)(hc:∀ c∈cs,1≤c∧c*P≤10000){o:List Nat}(ho:o.Perm (List.range cs.length)){u:Int}(hu:0≤u∧u<P) :
  (ordE P (bandL P m cs) (iL o)=0∧rdI P (bandL P m cs) (iL o)=sumC cs cs.length)∧lstI P (bandL P m cs)=sumC cs cs.length∧pkI P (bandL P m cs)=sumC cs cs.length ∧
  (overE P (bandL P m cs) u=0∧overI P (bandL P m cs) u=sumC cs cs.length)∧apE P (bandL P m cs)=5∧conE P (bandL P m cs) (iL o)=0:=by
 have hz:=band_se hP hm h1 h8 hc
 have hlen:(bandL P m cs).length=cs.length:=q2i
 have hrd:∀ {h:Nat} {t:List Nat},(h::t).Perm (List.range cs.length)→rd P (bandL P m cs) h t=sumC cs cs.length:=fun h=>band_rd hP.1 hm h
 have hov:∀ u,ov P (bandL P m cs) u=sumC cs cs.length:=fun u=>band_ov hP.1 u
 have hgp:∀ {i j:Nat},i<cs.length→j<cs.length→gp P (bandL P m cs) i j=0:=fun h k=>j0o hm h k
 generalize hL:bandL P m cs=l at *
 generalize sumC cs cs.length=S at *
 rw[← hlen] at hrd ho hgp h1 h8
 obtain⟨_,_,_,hok⟩:=q1h.1 hz
 have hne:l≠[]:=fun e=>by rw[e] at h1;simp at h1
 have hf:=q22 (l:=l) hP.1
 have hpk:pkV P l=S:=hov _
 have hle:leR P l=S:=by
  obtain⟨z,e1,e2⟩:=z8w (P:=P) hne
  rw[← e2];exact hrd e1
 have hlt:∀ x∈o,x<l.length:=fun x hx=>List.mem_range.1 (ho.mem_iff.1 hx)
 have hord:ordE P l (iL o)=0:=q4f.2 ⟨hz,by rw[List.length_map,ho.length_eq,List.length_range],fun x hx=>by
  obtain⟨n,hn,rfl⟩:=List.mem_map.1 hx
  have:=hlt n hn
  omega,by
  have:=(ho.nodup_iff.2 List.nodup_range)
  exact(List.pairwise_map.2 (this.imp fun h e=>h (by omega)))⟩
 have hgt:∀ i:Nat,i<o.length→((iL o).getD i 0).toNat<l.length:=fun i hi=>by
  have:(iL o).getD i 0=((o.getD i 0:Nat):Int):=by
   rw[List.getD_eq_getElem?_getD,List.getElem?_map,List.getD_eq_getElem?_getD,List.getElem?_eq_getElem hi];rfl
  rw[this]
  refine hlt _ ?_
  rw[List.getD_eq_getElem?_getD,List.getElem?_eq_getElem hi]
  exact List.getElem_mem hi
 have hoe:overE P l u=0:=by unfold overE;rw[if_neg (by rw[hz];simp),if_pos hu]
 refine⟨⟨hord,?_⟩,?_,?_,⟨hoe,?_⟩,?_,?_⟩
 ·unfold rdI
  rw[if_pos hord,nat_iL]
  cases o with
  |nil=>have:=ho.length_eq;rw[List.length_range] at this;simp at this;omega
  |cons h t=>exact hrd ho
 ·unfold lstI;rw[if_pos hz];exact hle
 ·unfold pkI;rw[if_pos hz];exact hpk
 ·unfold overI;rw[if_pos hoe];exact hov _
 ·unfold apE
  rw[if_neg (by rw[hz];simp),if_pos]
  rw[j0a h8 (by omega),← z89 hP.1 hok h1,← leR_held hP.1 hne hf,hle]
  exact(hov _).symm
 ·unfold conE
  rw[if_neg (by rw[hz];simp),if_neg,if_neg]
  ·have hc:conB P l (iL o) ((iL o).length-1)=true:=by
    unfold conB
    rw[List.all_eq_true]
    intro i hi
    have hi:=List.mem_range.1 hi
    rw[List.length_map] at hi
    exact decide_eq_true (hgp (hgt i (by omega)) (hgt (i+1) (by omega)))
   rw[hc];simp
  ·have hc:inB l (iL o)=true:=z85.2 fun x hx=>by
    obtain⟨n,hn,rfl⟩:=List.mem_map.1 hx
    have:=hlt n hn
    omega
   rw[hc];simp
end Go.Proofs.YtjfafggkkjgpeaaGreatDoor
namespace Go.Proofs.YtjfafggkkjgpeaaGreatDoor
open Go Go.RowKit Ox Ox.Sh Ox.Se
attribute [local irreducible] JC JL JK JW
theorem fn69(x lo hi:Int):Ox.Fn Tryz.prog 69 (.acons (vI x) (.acons (pI lo) (.acons (pI hi) .anil))) (·=vB (decide (x<lo∨x>hi))):=by
 refine Ox.Fn.intro xok Tryz.func69 rfl Tryz.call69 (Nat.le_of_ble_eq_true rfl) (fun E M0 up=>?_)
 refine z8 ?_
 (repeat (first|refine zs rfl ?_|refine zg rfl rfl rfl ?_|refine zd ?_|refine q8 ?_|refine q7 ?_))
 refine⟨.inl rfl,_,_,rfl,trivial,?_⟩
 by_cases h:x<lo<;>simp[h]
theorem z36{x y:Nat}(h:y≠0):Nat.gcd y (x % y)=Nat.gcd x y:=by rw[Nat.gcd_comm,← Nat.gcd_rec,Nat.gcd_comm]
theorem fn31(a b:Nat)(ha:a≤1000)(hb:b≤1000):Ox.Fn Tryz.prog 31 (.acons (vI a) (.acons (vI b) .anil)) (·=vI (Nat.gcd a b:Nat)):=by
 refine Ox.Fn.intro xok Tryz.func31 rfl Tryz.call31 (Nat.le_of_ble_eq_true rfl) (fun E M0 up=>?_)
 refine z8 ?_
 (repeat (first|refine zs rfl ?_|refine zg rfl rfl rfl ?_|refine zd ?_|refine q8 ?_|refine q7 ?_))
 refine JK.loop (fun q:Nat×Nat=>⟨[(0,vI (q.1:Int)),(1,vI (q.2:Int))],[],0⟩) (fun q=>q.1≤1000∧q.2≤1000∧Nat.gcd q.1 q.2=Nat.gcd a b) (fun q=>q.2) (a,b) ⟨ha,hb,rfl⟩ (by(exact z6 (by conv=>lhs;reduce))) fun q hq=>?_
 obtain⟨x,y⟩:=q
 obtain⟨h1,h2,h3⟩:=hq
 (repeat (first|refine zs rfl ?_|refine zg rfl rfl rfl ?_|refine zd ?_|refine q8 ?_|refine q7 ?_))
 refine z5 rfl (fun hc=>?_) (fun hc=>?_)
 ·(simp only[↓cdL] at hc;try simp only[Ty.dflt,Int.toNat_natCast] at hc)
  (repeat (first|refine zs rfl ?_|refine zg rfl rfl rfl ?_|refine zd ?_|refine q8 ?_|refine q7 ?_))
  refine⟨(y,x % y),by(exact z6 (by conv=>lhs;reduce)),⟨h2,?_,?_⟩,?_⟩
  ·exact Nat.le_trans (Nat.mod_le x y) h1
  ·exact(z36 (by omega)).trans h3
  ·exact Nat.mod_lt x (by omega)
 ·(simp only[↓cdL] at hc;try simp only[Ty.dflt,Int.toNat_natCast] at hc)
  (repeat (first|refine zs rfl ?_|refine zg rfl rfl rfl ?_|refine zd ?_|refine q8 ?_|refine q7 ?_))
  refine⟨.inl rfl,_,_,rfl,trivial,?_⟩
  show vI _=vI _
  have h0:y=0:=by omega
  subst h0
  rw[Nat.gcd_zero_right] at h3
  rw[h3]
theorem fn14(a b:Nat)(ha:a≤1000)(hb:b≤1000):Ox.Fn Tryz.prog 14 (.acons (vI a) (.acons (vI b) .anil)) (·=vI (Nat.gcd a b:Nat)):=by
 refine Ox.Fn.intro xok Tryz.func14 rfl Tryz.call14 (Nat.le_of_ble_eq_true rfl) (fun E M0 up=>?_)
 refine z8 ?_
 (repeat (first|refine zs rfl ?_|refine zg rfl rfl rfl ?_|refine zd ?_|refine q8 ?_|refine q7 ?_))
 refine JK.loop (fun q:Nat×Nat=>⟨[(0,vI (q.1:Int)),(1,vI (q.2:Int))],[],0⟩) (fun q=>q.1≤1000∧q.2≤1000∧Nat.gcd q.1 q.2=Nat.gcd a b) (fun q=>q.2) (a,b) ⟨ha,hb,rfl⟩ (by(exact z6 (by conv=>lhs;reduce))) fun q hq=>?_
 obtain⟨x,y⟩:=q
 obtain⟨h1,h2,h3⟩:=hq
 (repeat (first|refine zs rfl ?_|refine zg rfl rfl rfl ?_|refine zd ?_|refine q8 ?_|refine q7 ?_))
 refine z5 rfl (fun hc=>?_) (fun hc=>?_)
 ·(simp only[↓cdL] at hc;try simp only[Ty.dflt,Int.toNat_natCast] at hc)
  (repeat (first|refine zs rfl ?_|refine zg rfl rfl rfl ?_|refine zd ?_|refine q8 ?_|refine q7 ?_))
  refine⟨(y,x % y),by(exact z6 (by conv=>lhs;reduce)),⟨h2,?_,?_⟩,?_⟩
  ·exact Nat.le_trans (Nat.mod_le x y) h1
  ·exact(z36 (by omega)).trans h3
  ·exact Nat.mod_lt x (by omega)
 ·(simp only[↓cdL] at hc;try simp only[Ty.dflt,Int.toNat_natCast] at hc)
  (repeat (first|refine zs rfl ?_|refine zg rfl rfl rfl ?_|refine zd ?_|refine q8 ?_|refine q7 ?_))
  refine⟨.inl rfl,_,_,rfl,trivial,?_⟩
  show vI _=vI _
  have h0:y=0:=by omega
  subst h0
  rw[Nat.gcd_zero_right] at h3
  rw[h3]
theorem fn30(lo hi:Int)(xs:List Int):Ox.Fn Tryz.prog 30 (.acons (vI lo) (.acons (vI hi) (.acons (vL xs) .anil))) (·=vB (decide (∀ x∈xs,lo≤x∧x≤hi))):=by
 refine Ox.Fn.intro xok Tryz.func30 rfl Tryz.call30 (Nat.le_of_ble_eq_true rfl) (fun E M0 up=>?_)
 refine z8 ?_
 (repeat (first|refine zs rfl ?_|refine zg rfl rfl rfl ?_|refine zd ?_|refine q8 ?_|refine q7 ?_|refine zc rfl (fn68 xs (fun x=>decide (x<lo∨x>hi)) (fun x _=>fn69 x lo hi)) rfl rfl ?_|refine ze rfl (fn68 xs (fun x=>decide (x<lo∨x>hi)) (fun x _=>fn69 x lo hi)) rfl ?_|refine zk rfl rfl (fun _=>fn68 xs (fun x=>decide (x<lo∨x>hi)) (fun x _=>fn69 x lo hi)) rfl rfl ?_))
 refine⟨.inl rfl,_,_,rfl,trivial,?_⟩
 refine congrArg vB ?_
 rw[Bool.eq_iff_iff]
 simp only[Bool.not_eq_true',List.any_eq_false,decide_eq_true_eq]
 refine⟨fun h x hx=>?_,fun h x hx=>?_⟩
 ·have:=h x hx;omega
 ·have:=h x hx;omega
end Go.Proofs.YtjfafggkkjgpeaaGreatDoor
namespace Ox
open Go Go.RowKit Go.ChangeShapes Go.WideShapes Go.ChangeAt
section
variable {H:Type}{enc:TypeId×Value→H}{P:Program}{w:World}{base:Nat}{spare:Nat→Bool}{held:Bool}
def Ty.argB:Ty→Bool
 |.int _|.bool|.nil=>true
 |.slice e=>e.argB&&decide (0<e.size)
 |.arr _ e=>e.argB
 |.cons a b=>a.argB&&b.argB
 |.ptr _=>false
theorem q6z{b off n:Nat}{spot:Option Nat}{cs:List Value}(h:w.cells? base ⟨b,off,spot⟩ n=some cs)(hn:0<n) :
  spot=none∧∃ c ty fz,w.heap[b]?=some (.cells c ty fz)∧cs=(c.toList.drop off).take n:=by
 unfold World.cells? at h
 split at h
 ·have hl:=mapM_some_length h
  have hg:=fun i (hi:i<n)=>mapM_some_get h i i (by simp[hi])
  have h0:=hg 0 hn
  rw[List.length_range] at hl
  rw[List.getElem?_eq_getElem (by omega)] at h0
  simp only[Addr.add,if_true,World.cell?] at h0
  split at h0
  ·rename_i c ty fz hb
   split at h0
   ·cases h0
   ·rename_i hs
    have hs:spot=none:=by simpa using hs
    subst hs
    refine⟨rfl,c,ty,fz,hb,?_⟩
    apply List.ext_getElem?
    intro i
    rw[List.getElem?_take]
    by_cases hi:i<n
    ·rw[if_pos hi,← hg i hi,z9,x9 hb,List.getElem?_drop]
     simp
    ·rw[if_neg hi,List.getElem?_eq_none (by omega)]
  ·cases h0
 ·cases h
def Ty.fit:(t:Ty)→t.den→Prop
 |.int k,n=>inK k n
 |.bool,_=>True
 |.slice e,l=>∀ y∈l,e.fit y
 |.ptr _,_=>True
 |.arr _ e,l=>∀ y∈l,e.fit y
 |.nil,_=>True
 |.cons a b,y=>a.fit y.1∧b.fit y.2
theorem inK_wf{k:IntKind}{n:Int}(h:(Lit.int k n).wf=true):inK k n:=by
 simp only[Lit.wf,Bool.and_eq_true,decide_eq_true_eq] at h
 cases k<;>exact h
def RepA(P:Program)(t:Ty):Prop:=∀ {H:Type} {enc:TypeId×Value→H} {w:World} {base:Nat} {spare:Nat→Bool} {held:Bool} (id:TypeId) (fuel:Nat) (cs:List Value) (x:DataW H×List MemPlace),
 TyOf P t id→t.argB=true→DataW.trod enc P w base spare held fuel id cs=some x→∃ y,Rep (fun b=>w.heap[b]?) t y cs∧t.fit y
def RepF(P:Program)(t:Ty):Prop:=∀ {H:Type} {enc:TypeId×Value→H} {w:World} {base:Nat} {spare:Nat→Bool} {held:Bool} (fs:List Field) (off fuel:Nat) (cs:List Value),
 TyOf.fields P t fs off→t.argB=true→cs.length=off+t.size→(∀ (i:Nat) (f:Field),fs[i]?=some f→∃ x,DataW.trod enc P w base spare held fuel f.type ((cs.drop f.offset).take (P.cellsOf f.type))=some x) →
  ∃ y,Rep (fun b=>w.heap[b]?) t y (cs.drop off)∧t.fit y
theorem z8r{α:Type}{n:Nat}{p:Nat→α→Prop}(h:∀ i,i<n→∃ y,p i y):∃ l:List α,l.length=n∧∀ i (hi:i<l.length),p i (l.get ⟨i,hi⟩):=by
 induction n with
 |zero=>exact⟨[],rfl,fun i hi=>absurd hi (by simp)⟩
 |succ n ih=>
  obtain⟨l,h1,h2⟩:=ih fun i hi=>h i (by omega)
  obtain⟨y,hy⟩:=h n (by omega)
  refine⟨l++[y],by simp[h1],fun i hi=>?_⟩
  simp only[List.get_eq_getElem]
  by_cases hl:i<l.length
  ·rw[List.getElem_append_left hl];exact h2 i hl
  ·have:i=l.length:=by simp at hi;omega
   subst this
   rw[List.getElem_append_right (Nat.le_refl _)]
   simp only[Nat.sub_self,List.getElem_cons_zero]
   rw[h1];exact hy
theorem rep_all(P:Program):∀ t:Ty,RepA P t∧RepF P t:=by
 intro t
 induction t with
 |int k=>
  refine⟨fun id fuel cs x ht _ h=>?_,fun fs off fuel cs hf _ _ _=>by simp[TyOf.fields] at hf⟩
  simp only[TyOf] at ht
  have hu:=ht.under
  cases fuel with
  |zero=>simp[DataW.trod] at h
  |succ n=>
   unfold DataW.trod at h
   rw[hu] at h
   split at h<;>try (simp_all;done)
   rename_i k' q n' he
   split at h
   ·rename_i hk
    injection he with he
    injection he with he
    subst he
    exact⟨n',by simp only[Rep];rw[hk.1],inK_wf hk.2⟩
   ·cases h
 |bool=>
  refine⟨fun id fuel cs x ht _ h=>?_,fun fs off fuel cs hf _ _ _=>by simp[TyOf.fields] at hf⟩
  simp only[TyOf] at ht
  have hu:=ht.under
  cases fuel with
  |zero=>simp[DataW.trod] at h
  |succ n=>
   unfold DataW.trod at h
   rw[hu] at h
   split at h<;>try (simp_all;done)
   rename_i b he
   exact⟨b,by simp only[Rep],trivial⟩
 |slice e ih=>
  refine⟨@fun H enc w base spare held id fuel cs x ht hb h=>?_,fun fs off fuel cs hf _ _ _=>by simp[TyOf.fields] at hf⟩
  simp only[TyOf] at ht
  obtain⟨eid,hi,he⟩:=ht
  simp only[Ty.argB,Bool.and_eq_true,decide_eq_true_eq] at hb
  have hsz:=q1m he
  rcases DataW.trod_slice hi.under h with⟨h0,_⟩|⟨a,len,cap,elems,rest,n,_,rfl,_,_,hlc,hcm,hel,hg,_⟩
  ·exact⟨[],by simp only[Rep];exact⟨none,0,h0,Nat.le_refl _,Nat.zero_le _,fun _=>rfl,.inl rfl⟩,fun y hy=>by cases hy⟩
  ·have each:∀ i,i<len→∃ y:e.den,∃ spot c ty fz,a=⟨a.block,a.off,spot⟩∧(spot=none∨i≠0)∧∃ _:w.heap[a.block]?=some (.cells c ty fz),Rep (fun b=>w.heap[b]?) e y ((c.toList.drop (a.off+i*e.size)).take e.size)∧e.fit y:=by
    intro i hi'
    have h1:=hg i hi'
    rw[List.getElem?_eq_getElem (by omega),Option.bind_eq_some_iff,hsz] at h1
    obtain⟨ce,h2,h3⟩:=h1
    obtain⟨blk,off,spot⟩:=a
    by_cases h0:i*e.size=0
    ·have hi0:i=0:=by
      rcases Nat.mul_eq_zero.1 h0 with h0|h0
      ·exact h0
      ·omega
     subst hi0
     simp only[Nat.zero_mul,Addr.add,if_true] at h2
     obtain⟨hs,c,ty,fz,h4,rfl⟩:=q6z h2 hb.2
     obtain⟨y,hy,hyf⟩:=ih.1 eid n _ _ he hb.1 h3
     exact⟨y,spot,c,ty,fz,rfl,.inl hs,h4,by simpa using hy,hyf⟩
    ·have e1:(Addr.add ⟨blk,off,spot⟩ (i*e.size))=⟨blk,off+i*e.size,none⟩:=by simp only[Addr.add,if_neg h0]
     rw[e1] at h2
     obtain⟨hs,c,ty,fz,h4,rfl⟩:=q6z h2 hb.2
     obtain⟨y,hy,hyf⟩:=ih.1 eid n _ _ he hb.1 h3
     exact⟨y,spot,c,ty,fz,rfl,.inr (fun hi0=>h0 (by rw[hi0,Nat.zero_mul])),h4,hy,hyf⟩
   by_cases hl0:len=0
   ·subst hl0
    exact⟨[],by simp only[Rep];exact⟨some a,cap,rfl,Nat.zero_le _,hcm,(fun h=>by cases h),.inl rfl⟩,fun y hy=>by cases hy⟩
   ·obtain⟨y0,spot,c,ty,fz,ha,hs,hc,_⟩:=each 0 (by omega)
    have hs:spot=none:=hs.resolve_right (fun h=>h rfl)
    subst hs
    obtain⟨l,hl,hr⟩:=z8r (p:=fun i (y:e.den)=>Rep (fun b=>w.heap[b]?) e y ((c.toList.drop (a.off+i*e.size)).take e.size)∧e.fit y) (n:=len) (fun i hi'=>by
     obtain⟨y,_,c',ty',fz',_,_,hc',hy⟩:=each i hi'
     rw[hc] at hc'
     injection hc' with hc'
     injection hc' with hc' _ _
     subst hc'
     exact⟨y,hy⟩)
    refine⟨l,?_,fun y hy=>by
     obtain⟨i,hi,rfl⟩:=List.mem_iff_get.1 hy
     exact(hr i.1 i.2).2⟩
    simp only[Rep]
    refine⟨some a,cap,by rw[hl],by rw[hl];exact hlc,hcm,(fun h=>by cases h),.inr ⟨a.block,a.off,c,ty,fz,by rw[ha],hc,fun i hi=>(hr i hi).1⟩⟩
 |ptr e ih=>exact⟨fun id fuel cs x _ hb _=>by simp[Ty.argB] at hb,fun fs off fuel cs hf _ _ _=>by simp[TyOf.fields] at hf⟩
 |arr n e ih=>
  refine⟨@fun H enc w base spare held id fuel cs x ht hb h=>?_,fun fs off fuel cs hf _ _ _=>by simp[TyOf.fields] at hf⟩
  simp only[TyOf] at ht
  obtain⟨eid,hi,he⟩:=ht
  simp only[Ty.argB] at hb
  have hsz:=q1m he
  have hsa:P.cellsOf id=n*e.size:=q1m (t:=.arr n e) ⟨eid,hi,he⟩
  obtain⟨xs,m,_,_,hl,hxl,hg⟩:=DataW.trod_array hi.under h
  obtain⟨l,h1,h2⟩:=z8r (p:=fun i (y:e.den)=>Rep (fun b=>w.heap[b]?) e y ((cs.drop (i*e.size)).take e.size)∧e.fit y) (n:=n) (fun i hi'=>by
   have h3:=hg i hi'
   rw[hsz,List.getElem?_eq_getElem (by omega)] at h3
   exact ih.1 eid m _ _ he hb h3)
  exact⟨l,by simp only[Rep];exact⟨h1,by rw[hl,hsa],fun i hi=>(h2 i hi).1⟩,fun y hy=>by
   obtain⟨i,hi,rfl⟩:=List.mem_iff_get.1 hy
   exact(h2 i.1 i.2).2⟩
 |nil=>
  refine⟨fun id fuel cs x ht _ _=>by simp[TyOf] at ht,fun fs off fuel cs hf _ hl _=>⟨(),?_,trivial⟩⟩
  simp only[Rep,Ty.size] at hl ⊢
  exact List.drop_of_length_le (by omega)
 |cons a b iha ihb=>
  have hF:RepF P (.cons a b):=by
   intro H enc w base spare held fs off fuel cs hf hb hl hg
   cases fs with
   |nil=>simp[TyOf.fields] at hf
   |cons f r=>
    simp only[TyOf.fields] at hf
    obtain⟨h1,h2,h3,h4⟩:=hf
    simp only[Ty.argB,Bool.and_eq_true] at hb
    simp only[Ty.size] at hl
    obtain⟨x,hx⟩:=hg 0 f rfl
    rw[h1,q1m h2] at hx
    obtain⟨y1,hy1,hf1⟩:=iha.1 _ _ _ _ h2 hb.1 hx
    obtain⟨y2,hy2,hf2⟩:=ihb.2 r (off+a.size) fuel cs h4 hb.2 (by omega) fun i f hf=>hg (i+1) f (by simpa using hf)
    refine⟨(y1,y2),?_,hf1,hf2⟩
    simp only[Rep]
    refine⟨_,_,?_,hy1,hy2⟩
    rw[← List.drop_drop,List.take_append_drop]
  refine⟨@fun H enc w base spare held id fuel cs x ht hb h=>?_,hF⟩
  have hct:=q1m ht
  simp only[TyOf] at ht
  obtain⟨fs,hi,hm⟩:=ht
  obtain⟨xs,n,_,_,hl,hxl,hg⟩:=DataW.trod_struct hi.under h
  have hff:TyOf.fields P (.cons a b) fs.toList 0:=by
   split at hm
   ·rename_i f r hfr
    rw[hfr]
    simp only[TyOf.fields]
    simpa using hm
   ·exact hm.elim
  have:=hF fs.toList 0 n cs hff hb (by rw[hl,hct];omega) (held:=held) (enc:=enc) (w:=w) (base:=base) (spare:=spare) fun i f hf=>by
   have h1:=hg i f (by simpa using hf)
   have hlt:i<xs.length:=by
    rw[hxl]
    have:=(List.getElem?_eq_some_iff.1 hf).1
    simpa using this
   rw[List.getElem?_eq_getElem hlt] at h1
   exact⟨_,h1⟩
  simpa using this
def Dat:List Ty→Type
 |[]=>Unit
 |t::ts=>t.den×Dat ts
def Dat.av:{ts:List Ty}→Dat ts→AV
 |[],_=>.anil
 |t::_,x=>.acons (.val t x.1) (Dat.av x.2)
def Dat.fit:{ts:List Ty}→Dat ts→Prop
 |[],_=>True
 |t::_,x=>t.fit x.1∧Dat.fit x.2
def tysB(P:Program):List Ty→List TypeId→Bool
 |[],[]=>true
 |t::ts,i::is=>(tyB P t i&&t.argB)&&(P.readableRec i&&decide (i<P.types.size))&&tysB P ts is
 |_,_=>false
theorem agg_of{t:Ty}{id:TypeId}(ht:TyOf P t id)(hb:t.argB=true):(t.agg=true∧((∃ fs,P.underlying id=some (.struct fs))∨∃ n e,P.underlying id=some (.array n e))) ∨
  (t.agg=false∧((∃ k,P.underlying id=some (.int k))∨P.underlying id=some .bool∨∃ e,P.underlying id=some (.slice e))):=by
 cases t with
 |int k=>simp only[TyOf] at ht;exact .inr ⟨rfl,.inl ⟨k,ht.under⟩⟩
 |bool=>simp only[TyOf] at ht;exact .inr ⟨rfl,.inr (.inl ht.under)⟩
 |slice e=>simp only[TyOf] at ht;obtain⟨eid,h,_⟩:=ht;exact .inr ⟨rfl,.inr (.inr ⟨eid,h.under⟩)⟩
 |ptr e=>simp[Ty.argB] at hb
 |arr n e=>simp only[TyOf] at ht;obtain⟨eid,h,_⟩:=ht;exact .inl ⟨rfl,.inr ⟨n,eid,h.under⟩⟩
 |nil=>simp[TyOf] at ht
 |cons a b=>simp only[TyOf] at ht;obtain⟨fs,h,_⟩:=ht;exact .inl ⟨rfl,.inl ⟨fs,h.under⟩⟩
theorem arg_rv{ρ:Env}{t:Ty}{id:TypeId}{v:Value}{d:DataW H}{ps:List MemPlace}(ht:TyOf P t id)(hb:t.argB=true)(hv:Value.okWide P w .any base id v){b0:Nat}
  (h:DataW.Trod enc P w b0 spare held id v d ps):∃ y,(AV.val t y).rv (fun b=>w.heap[b]?) ρ v∧t.fit y:=by
 obtain⟨fuel,h⟩:=h
 obtain⟨y,hy,hyf⟩:=(rep_all P t).1 id fuel _ _ ht hb h
 refine⟨y,?_,hyf⟩
 simp only[AV.rv]
 refine⟨_,hy,?_⟩
 unfold Value.okWide at hv
 rcases agg_of ht hb with⟨hag,hu⟩|⟨hag,hu⟩
 ·have:∃ cs,v=.agg cs:=by
   rcases hu with⟨fs,hu⟩|⟨n,e,hu⟩<;>· rw[hu] at hv;obtain⟨cs,h1,_⟩:=hv;exact⟨cs,h1⟩
  obtain⟨cs,rfl⟩:=this
  rw[g8 hag]
  simp[Value.cells]
 ·have hone:v.oneCell'=true:=by
   rcases hu with⟨k,hu⟩|hu|⟨e,hu⟩<;>rw[hu] at hv<;>simp only[Cell.okWide,hu,Cell.ok] at hv<;>(split at hv<;>first|rfl|(exact hv.elim)|(split at hv<;>first|rfl|exact hv.elim))
  rw[q0l hone]
  simp[Ty.wrap,hag]
theorem q5y{t:Ty}{ts:List Ty}{i:TypeId}{is:List TypeId}(h:tysB P (t::ts) (i::is)=true):TyOf P t i∧t.argB=true∧P.readableRec i=true∧i<P.types.size∧tysB P ts is=true:=by
 simp only[tysB,Bool.and_eq_true,decide_eq_true_eq] at h
 exact⟨e8 h.1.1.1,h.1.1.2,h.1.2.1,h.1.2.2,h.2⟩
theorem j0v{ρ:Env}{b0:Nat}:∀ {ts:List Ty} {is:List TypeId} {vs:List Value} {ds:List (DataW H)} {ps:List MemPlace},tysB P ts is=true→(∀ (j:Nat) t v,is[j]?=some t→vs[j]?=some v→Value.okWide P w .any base t v) →
  DataW.TrodAll enc P w b0 spare held is vs ds ps→∃ ys:Dat ts,ys.av.rvs (fun b=>w.heap[b]?) ρ vs∧ys.fit
 |[],[],vs,ds,ps,_,_,h=>by
  cases vs with
  |nil=>exact⟨(),by simp only[Dat.av,AV.rvs],trivial⟩
  |cons v vs=>cases ds<;>simp[DataW.TrodAll] at h
 |t::ts,i::is,vs,ds,ps,hb,hv,h=>by
  obtain⟨h1,h2,_,_,h5⟩:=q5y hb
  cases vs with
  |nil=>cases ds<;>simp[DataW.TrodAll] at h
  |cons v vs=>
   cases ds with
   |nil=>simp[DataW.TrodAll] at h
   |cons d ds=>
    obtain⟨p,q,h6,h7,_⟩:=h
    obtain⟨y,hy,hyf⟩:=arg_rv (ρ:=ρ) h1 h2 (hv 0 i v rfl rfl) h6
    obtain⟨ys,hys,hysf⟩:=j0v (ρ:=ρ) h5 (fun j t v hj hjv=>hv (j+1) t v (by simpa using hj) (by simpa using hjv)) h7
    exact⟨(y,ys),by simp only[Dat.av,AV.rvs];exact⟨v,vs,hy,hys,rfl⟩,hyf,hysf⟩
 |[],_::_,_,_,_,hb,_,_=>by simp[tysB] at hb
 |_::_,[],_,_,_,hb,_,_=>by simp[tysB] at hb
theorem Dat.bd:∀ {ts:List Ty} (ys:Dat ts) (n:Nat),ys.av.bd n
 |[],_,_=>trivial
 |_::_,x,n=>⟨trivial,Dat.bd x.2 n⟩
theorem q73{W W':World}(hl:laidOutB P=true)(hbl:Below W.heap.size W W'){sp:Nat→Bool}:∀ {ts:List Ty} {is:List TypeId} {vs:List Value} {ds:List (DataW H)} {ps:List MemPlace},tysB P ts is=true →
  DataW.TrodAll enc P W 0 (fun _=>true) true is vs ds ps→(∀ p∈ps,p.block<W.heap.size)→(∀ p∈ps,sp p.block=true)→DataW.TrodAll enc P W' 0 sp true is vs ds ps
 |[],[],vs,ds,ps,_,h,_,_=>by
  cases vs<;>cases ds<;>simp_all[DataW.TrodAll]
 |t::ts,i::is,vs,ds,ps,hb,h,hlt,hsp=>by
  obtain⟨_,_,h3,h4,h5⟩:=q5y hb
  cases vs with
  |nil=>cases ds<;>simp[DataW.TrodAll] at h
  |cons v vs=>
   cases ds with
   |nil=>simp[DataW.TrodAll] at h
   |cons d ds=>
    obtain⟨p,q,h6,h7,rfl⟩:=h
    refine⟨p,q,WideElems.Trod_stays hl h3 h4 h6 (fun x hx=>hbl.same (hlt x (List.mem_append_left _ hx))) (fun x hx=>hsp x (List.mem_append_left _ hx)),?_,rfl⟩
    exact q73 hl hbl h5 h7 (fun x hx=>hlt x (List.mem_append_right _ hx)) (fun x hx=>hsp x (List.mem_append_right _ hx))
 |[],_::_,_,_,_,hb,_,_,_=>by simp[tysB] at hb
 |_::_,[],_,_,_,hb,_,_,_=>by simp[tysB] at hb
theorem law_callsL{Z:Mem→Prop}{f:FuncId}{fn:Func}{s:ChangeSpec}{ts:List Ty}{W:World}{base:Nat}{args:Array Value}{ds gs:List (DataW H)}{before:List MemPlace}{fresh handsOn:Bool}
  (hz:Z (fun b=>W.heap[b]?)) (hfn:∀ ys:Dat ts,ys.fit→FnL Z P f ys.av (·=.val .bool true)) (hts:tysB P ts fn.params.toList=true) (hl:laidOutB P=true) (hvars:s.vars=[])
  (hspec:∀ ds:List (DataW H),ds.length=ts.length→(s.fn H ds).results=[.lit (.bool true)]∧(s.fn H ds).args=ds∧(s.fn H ds).vars=[]) {rt:TypeId} (hres:fn.resultTypes=#[rt]) (hrt:P.underlying rt=some .bool)
  (hval:∀ (j:Nat) t v,fn.params[j]?=some t→args[j]?=some v→Value.okWide P W .any base t v) (hW:DataW.Whole enc P fn.params.toList s.vars false W args.toList ds gs before) :
  Calls P f args W fun e W'=>∃ v,e=.returned v∧s.post enc P fn false fresh handsOn false W args v W':=by
 have hW':=hW
 obtain⟨p,q,hA,hV,rfl,hfz,_⟩:=hW
 rw[hvars] at hV
 obtain⟨rfl,rfl⟩:=trodVars_none hV
 rw[List.append_nil] at hW'
 obtain⟨ys,hys,hysf⟩:=j0v (ρ:=⟨fun _=>0,fun _=>.nil,fun _=>Go.undef⟩) hts (fun j t v hj hv=>hval j t v (by simpa using hj) (by simpa using hv)) hA
 have hlen:∀ {ts:List Ty} {is:List TypeId} {vs:List Value} {ds:List (DataW H)} {ps:List MemPlace},tysB P ts is=true→DataW.TrodAll enc P W 0 (fun _=>true) true is vs ds ps→ds.length=ts.length:=by
  intro ts
  induction ts with
  |nil=>intro is vs ds ps hb h;cases is<;>cases vs<;>cases ds<;>simp_all[DataW.TrodAll,tysB]
  |cons t ts ih=>
   intro is vs ds ps hb h
   cases is with
   |nil=>simp[tysB] at hb
   |cons i is=>
    cases vs<;>cases ds<;>try (simp[DataW.TrodAll] at h;done)
    obtain⟨p,q,_,h7,_⟩:=h
    simp[ih (q5y hb).2.2.2.2 h7]
 have hdl:=hlen hts hA
 have hrun:=(hfn ys hysf).run (fun b=>W.heap[b]?) ⟨fun _=>0,fun _=>.nil,fun _=>Go.undef⟩ W args.toList hz (fun _ _ h=>h) hys (Dat.bd ys 0)
 rw[Array.toArray_toList] at hrun
 refine hrun.mono fun e W'=>?_
 rintro⟨v,r,M',rfl,rfl,_,hrv,hbl,_⟩
 rw[m8] at hrv
 subst hrv
 obtain⟨hs1,hs2,hs3⟩:=hspec ds hdl
 have hlt:=fun x hx=>hW'.lt x hx
 refine⟨_,rfl,ds,[],p,[],p,[],hW',?_,?_,?_,World.keptBut_mono (fun x hx=>⟨hx,.inr (.inl hx)⟩) (hbl.frame (·∈p)),fun h=>by cases h⟩
 ·rw[List.append_nil,hs1,hres]
  exact trodAll_cons_mk (shut_bool hrt _) trodAll_mk0
 ·rw[List.append_nil,hs2]
  exact q73 hl hbl hts hA hlt fun x hx=>by simpa using hlt x hx
 ·rw[List.append_nil,hs3,hvars]
  rfl
end
end Ox
namespace Ox
open Go Go.RowKit
noncomputable section
theorem laid_one{P:Program}{w:World}{name:String}{k:IntKind}{xs:List Int}{g:Nat}{t e:TypeId}(hg:P.globalNamed name=some g)(ht:(P.globals[g]?).map (·.type)=some t)(hu:P.underlying t=some (.array xs.length e))(he:P.underlying e=some (.int k))(hc:P.cellsOf e=1) :
  ∀ {laid:List (String×DataW Unit)} {ps:List MemPlace},DataW.LaidVars P w laid ps→(name,DataW.agg (xs.map fun z=>DataW.lit (.int k z)))∈laid →
  ∃ (cs:Array Value) (ty:TypeId) (fz:Nat×Nat),w.heap[g]?=some (.cells cs ty fz)∧xs.length≤cs.size∧∀ i,i<xs.length→cs[i]?=some (.int k (xs.getD i 0))
 |[],_,_,hm=>absurd hm List.not_mem_nil
 |(n,d)::r,ps,h,hm=>by
  obtain⟨g',t',cs,fuel,p,q,h1,h2,h3,h4,h5,_⟩:=h
  rcases List.mem_cons.1 hm with hm|hm
  ·injection hm with e1 e2
   subst e1;subst e2
   obtain rfl:=Option.some.inj (hg.symm.trans h1)
   obtain rfl:=Option.some.inj (ht.symm.trans h2)
   obtain⟨ys,m,_,hx,hl,hyl,hcell⟩:=DataW.trod_array hu h4
   have hy:ys.map (·.1)=xs.map fun z=>DataW.lit (.int k z):=by
    injection hx with hx _
    injection hx with hx
    exact hx.symm
   have hblk:∃ ty fz,w.heap[g]?=some (.cells cs ty fz):=by
    unfold World.var? at h3
    rw[hg] at h3
    simp only[Option.bind_some] at h3
    split at h3
    ·rename_i cs' ty fz hh
     injection h3 with h3
     exact⟨ty,fz,by rw[hh,h3]⟩
    ·cases h3
   obtain⟨ty,fz,hh⟩:=hblk
   have key:∀ i,i<xs.length→cs[i]?=some (.int k (xs.getD i 0)):=fun i hi=>by
    have h6:=hcell i hi
    rw[hc,Nat.mul_one] at h6
    have hi':i<ys.length:=by rw[hyl];exact hi
    rw[List.getElem?_eq_getElem hi'] at h6
    obtain⟨z,h7,h8,_⟩:=DataW.trod_int he h6
    have h9:(ys[i]).1=DataW.lit (.int k (xs.getD i 0)):=by
     have:=congrArg (fun l=>l[i]?) hy
     simp only[List.getElem?_map,List.getElem?_eq_getElem hi',List.getElem?_eq_getElem hi,Option.map_some,Option.some.injEq] at this
     rw[this,List.getD_eq_getElem?_getD,List.getElem?_eq_getElem hi];rfl
    rw[h8] at h9
    injection h9 with h9
    injection h9 with _ h9
    subst h9
    have hlt:i<cs.toList.length:=by
     refine Nat.lt_of_not_le fun hc'=>?_
     rw[List.drop_of_length_le hc'] at h7
     cases h7
    rw[List.drop_eq_getElem_cons hlt] at h7
    injection h7 with h7 _
    rw[← Array.getElem?_toList,List.getElem?_eq_getElem hlt,h7]
   refine⟨cs,ty,fz,hh,?_,key⟩
   refine Nat.le_of_not_lt fun hc'=>?_
   have:=key cs.size hc'
   simp at this
  ·exact laid_one hg ht hu he hc h5 hm
end
end Ox
namespace Ox
open Go Go.RowKit Ox.Rn
variable {X:Ctx}{M:Mem}{ρ:Env}{a:Act}{w w':World}{QA:Exit→S→Prop}{all l:List Oper}{L:List (Nat×AV)}{H:List (Nat×HO)}{nx d:Nat}{ty:TypeId}{ps:String}{af:Array Edge}{s:S}{o:Oper}{md:Bool}
theorem run_remT{P:Program}{w:World}{k:IntKind}{a b:Int}(hb:b≠0):(Op.intDiv .rem k a b).run P w=.ok (.int k (Int.tmod a b)) w:=by
 simp only[Op.intDiv,if_neg hb,Sem.run_pure]
theorem JL.remT{t t':TypeId}{x y:Operand}{c1 c2:List Prop}{k:IntKind}{u v:Int}(hu:opd L x=some (c1,.val (.int k) u))(hv:opd L y=some (c2,.val (.int k) v))(h1:allP c1)(h2:allP c2)(hb:v≠0)(hd:ltB d X.n=true)
  (kk:JL X true all QA l ⟨(d,.val (.int k) (Int.tmod u v))::L,H,nx⟩):JL X true all QA (⟨some d,.binOp .rem t x y t',ty,ps,af,none⟩::l) ⟨L,H,nx⟩:=by
 refine q7d rfl rfl (u0 hd) (v:=.val (.int k) (Int.tmod u v)) (s':=⟨L,H,nx⟩) (fun M ρ a w k1 k2=>?_) kk
 have e1:=(z7 (s:=⟨L,H,nx⟩) hu h1 k2).2
 have e2:=(z7 (s:=⟨L,H,nx⟩) hv h2 k2).2
 rw[v7] at e1 e2
 refine⟨ρ,w,.value (.int k (Int.tmod u v)),?_,Env.upTo.refl _ _,Nat.le_refl _,rfl,k1,trivial,.inl ⟨_,rfl,v7.2 rfl⟩⟩
 simp only[execOp,e1,e2,Sem.run_bind,g6,Result.andThen_ok,binOp,if_neg (fun h:k≠k=>h rfl)]
 rw[run_remT hb];rfl
theorem j1e{r:List Fr}{t t':TypeId}{x y:Operand}{c1 c2:List Prop}{k:IntKind}{u v:Int}(hu:opd L x=some (c1,.val (.int k) u))(hv:opd L y=some (c2,.val (.int k) v))(h1:allP c1)(h2:allP c2)(hb:v≠0)(hd:ltB d X.n=true)
  (kk:JK X (.ops true all l::r) QA ⟨(d,.val (.int k) (Int.tmod u v))::L,H,nx⟩):JK X (.ops true all (⟨some d,.binOp .rem t x y t',ty,ps,af,none⟩::l)::r) QA ⟨L,H,nx⟩:=JL.remT hu hv h1 h2 hb hd kk
theorem Laid_of{gs:List Gt}{M N:Mem}(h:Laid gs M)(k:∀ b o,M b=some o→N b=some o):Laid gs N:=fun q hq=>by
 obtain⟨cs,ty,fz,e1,e2⟩:=h q hq
 exact⟨cs,ty,fz,k _ _ e1,e2⟩
theorem z05{gs:List Gt}{cs:List Prop}{f:FuncId}{r:AV}(h:callA X.T o.op s=some (cs,f,.anil))(hf:FnZ (Laid gs) X.P f r.toV)(hz:Laid gs X.M0)(hc:allP cs)(h1:SAT X M ρ s w)(h2:REG X M ρ s a){w1:World}(hw:Below w.heap.size w w1) :
  ∃ az,(execOp a.eval o).run X.P w1=.ok (.enter f az) w1∧Calls X.P f az w1 (fun e w'=>e=.returned r.toV∧Below w.heap.size w w'):=by
 obtain⟨hb,vs,hvs,hrun⟩:=q28 h1 (z29 h1) h2 h hc
 simp only[AV.rvs] at hvs
 subst hvs
 refine⟨#[],by rw[hrun,hf.call],(hf.run _ w1 (Laid_of hz fun b o e=>h1.mem b o (h1.msub b o e)) (z28 hw)).mono ?_⟩
 rintro e w' ⟨rfl,hbl⟩
 exact⟨rfl,hw.trans (hbl.mono hw.size)⟩
theorem JL.callZ{gs:List Gt}{cs:List Prop}{f:FuncId}{r:AV}(hg:o.guard=none)(h:callA X.T o.op s=some (cs,f,.anil))(hf:FnZ (Laid gs) X.P f r.toV)(hz:Laid gs X.M0)(hr:r.scal=true)(hrb:r.bd 0)(hd:dstOk X.n o.dst)(hc:allP cs)
  (k:JL X true all QA l (putS o.dst r s)):JL X true all QA (o::l) s:=by
 intro M ρ a w h1 h2
 obtain⟨az,e1,e2⟩:=z05 h hf hz hc h1 h2 (Below.refl w.heap.size w)
 refine j7 (v5 hg) (s5 (q3w h) e1 e2 ?_)
 rintro e w' ⟨rfl,hbl⟩
 exact⟨_,rfl,k M ρ _ w' (j6 (h1.later hbl)) (h2.putO hd.spec (k9 (Nat.zero_le _) hrb) ((p5 hr).2 rfl))⟩
theorem j1d{gs:List Gt}{cs:List Prop}{f:FuncId}{r:AV}{g:Bool}(hg:gOf all s.L o.guard=some g)(hgt:g=true)(h:callA X.T o.op s=some (cs,f,.anil))(hf:FnZ (Laid gs) X.P f r.toV)(hz:Laid gs X.M0)(hr:r.scal=true)(hrb:r.bd 0)(hd:dstOk X.n o.dst)(hc:allP cs)
  (k:JL X true all QA l (putS o.dst r s)):JL X true all QA (o::l) s:=by
 subst hgt
 intro M ρ a w h1 h2
 have hw:=q0k hg h2
 obtain⟨az,e1,e2⟩:=z05 h hf hz hc h1 h2 (Below.refl w.heap.size w)
 refine j7 hw (s5 (q3w h) e1 e2 ?_)
 rintro e w' ⟨rfl,hbl⟩
 exact⟨_,rfl,k M ρ _ w' (j6 (h1.later hbl)) (h2.putO hd.spec (k9 (Nat.zero_le _) hrb) ((p5 hr).2 rfl))⟩
variable {op:Op}
theorem q5t{fr:List Fr}{gs:List Gt}{cs:List Prop}{f:FuncId}{b:Bool}(h:callA X.T op ⟨L,H,nx⟩=some (cs,f,.anil))(hf:FnZ (Laid gs) X.P f (.bool b))(hz:Laid gs X.M0)(hd:ltB d X.n=true)(hc:allP cs)
  (k:JK X (.ops true all l::fr) QA ⟨(d,(.val .bool b))::L,H,nx⟩):JK X (.ops true all (⟨some d,op,ty,ps,af,none⟩::l)::fr) QA ⟨L,H,nx⟩:=
 JL.callZ (r:=(.val .bool b)) rfl h hf hz rfl trivial (u0 hd) hc k
theorem q34{fr:List Fr}{gs:List Gt}{cs:List Prop}{f:FuncId}{b:Bool}{g:Bool}{gg:Nat×Bool}(hg:gOf all L (some gg)=some g)(hgt:g=true)(h:callA X.T op ⟨L,H,nx⟩=some (cs,f,.anil))(hf:FnZ (Laid gs) X.P f (.bool b))(hz:Laid gs X.M0)(hd:ltB d X.n=true)(hc:allP cs)
  (k:JK X (.ops true all l::fr) QA ⟨(d,(.val .bool b))::L,H,nx⟩):JK X (.ops true all (⟨some d,op,ty,ps,af,some gg⟩::l)::fr) QA ⟨L,H,nx⟩:=
 j1d (r:=(.val .bool b)) (s:=⟨L,H,nx⟩) hg hgt h hf hz rfl trivial (u0 hd) hc k
end Ox
namespace Go.Proofs.YtjfafggkkjgpeaaGreatDoor
open Go Go.RowKit Ox Ox.Sh Ox.Se
attribute [local irreducible] JC JL JK JW
abbrev vMt(a b c:Int):AV:=.tup (.acons (vI a) (.acons (vI b) (.acons (vI c) .anil)))
theorem fn30t{lo hi x y:Int}(hx:lo≤x∧x≤hi)(hy:lo≤y∧y≤hi):Ox.Fn Tryz.prog 30 (.acons (vI lo) (.acons (vI hi) (.acons (vL [x,y]) .anil))) (·=vB true):=by
 have h:=fn30 lo hi [x,y]
 rwa[decide_eq_true (by simpa using⟨hx,hy⟩)] at h
theorem fn13n(p q a b:Nat)(hp:1≤p∧p≤30)(hq:1≤q∧q≤30)(ha:a≤255)(hb:b≤255)(hg:¬ ((Nat.gcd p q:Nat):Int)∣(a:Int)-b) :
  Ox.Fn Tryz.prog 13 (.acons (vI p) (.acons (vI q) (.acons (vI a) (.acons (vI b) .anil)))) (·=vMt 0 0 5):=by
 refine Ox.Fn.intro xok Tryz.func13 rfl Tryz.call13 (Nat.le_of_ble_eq_true rfl) (fun E M0 up=>?_)
 refine z8 ?_
 have hg1:1≤Nat.gcd p q:=Nat.gcd_pos_of_pos_left _ (by omega)
 have c31:=fn31 p q (by omega) (by omega)
 have c1:=fn30t (lo:=1) (hi:=50) (x:=p) (y:=q) (by omega) (by omega)
 have c2:=fn30t (lo:=0) (hi:=500) (x:=a) (y:=b) (by omega) (by omega)
 (repeat (first|refine zt rfl rfl ?_|refine zs rfl ?_|refine zg rfl rfl rfl ?_|refine zd ?_|refine q8 ?_|refine q7 ?_|refine zc rfl (c1) rfl rfl ?_|refine ze rfl (c1) rfl ?_|refine zk rfl rfl (fun _=>c1) rfl rfl ?_|refine zc rfl (c2) rfl rfl ?_|refine ze rfl (c2) rfl ?_|refine zk rfl rfl (fun _=>c2) rfl rfl ?_|refine zc rfl (c31) rfl rfl ?_|refine ze rfl (c31) rfl ?_|refine zk rfl rfl (fun _=>c31) rfl rfl ?_))
 refine z5 rfl (fun h=>absurd h (by decide)) (fun _=>?_)
 generalize Nat.gcd p q=g at hg hg1 c31 ⊢
 (repeat (first|refine zs rfl ?_|refine zg rfl rfl rfl ?_|refine zd ?_|refine q8 ?_|refine q7 ?_|refine zc rfl (c31) rfl rfl ?_|refine ze rfl (c31) rfl ?_|refine zk rfl rfl (fun _=>c31) rfl rfl ?_))
 refine j1e (t':=_) rfl rfl trivial trivial (by omega) rfl ?_
 (repeat (first|refine zs rfl ?_|refine zg rfl rfl rfl ?_|refine zd ?_|refine q8 ?_|refine q7 ?_))
 have ht:Int.tmod ((a:Int)-b) g≠0:=fun h=>hg (Int.dvd_of_tmod_eq_zero h)
 generalize Int.tmod ((a:Int)-b) g=z at ht ⊢
 refine z5 rfl (fun _=>?_) (fun h=>absurd h (by simpa using ht))
 (repeat (first|refine zs rfl ?_|refine zg rfl rfl rfl ?_|refine zd ?_|refine q8 ?_|refine q7 ?_))
 refine⟨.inl rfl,_,_,rfl,trivial,?_⟩
 rfl
def mtS(p a b:Int):Int:=a+(max a b-a+p-1) / p*p
theorem fn13y(p q a b J:Nat)(hp:1≤p∧p≤30)(hq:1≤q∧q≤30)(ha:a≤255)(hb:b≤255)(hg:((Nat.gcd p q:Nat):Int)∣(a:Int)-b)(hJ:J≤1000)
  (hn:∀ j,j<J→(mtS p a b+j*p-b) % q≠0) (hy:(mtS p a b+J*p-b) % q=0) :
  Ox.Fn Tryz.prog 13 (.acons (vI p) (.acons (vI q) (.acons (vI a) (.acons (vI b) .anil)))) (·=vMt (mtS p a b+J*p) ((p:Int) / (Nat.gcd p q:Nat)*q) 0):=by
 refine Ox.Fn.intro xok Tryz.func13 rfl Tryz.call13 (Nat.le_of_ble_eq_true rfl) (fun E M0 up=>?_)
 refine z8 ?_
 have hg1:1≤Nat.gcd p q:=Nat.gcd_pos_of_pos_left _ (by omega)
 have c31:=fn31 p q (by omega) (by omega)
 have c1:=fn30t (lo:=1) (hi:=50) (x:=p) (y:=q) (by omega) (by omega)
 have c2:=fn30t (lo:=0) (hi:=500) (x:=a) (y:=b) (by omega) (by omega)
 (repeat (first|refine zt rfl rfl ?_|refine zs rfl ?_|refine zg rfl rfl rfl ?_|refine zd ?_|refine q8 ?_|refine q7 ?_|refine zc rfl (c1) rfl rfl ?_|refine ze rfl (c1) rfl ?_|refine zk rfl rfl (fun _=>c1) rfl rfl ?_|refine zc rfl (c2) rfl rfl ?_|refine ze rfl (c2) rfl ?_|refine zk rfl rfl (fun _=>c2) rfl rfl ?_|refine zc rfl (c31) rfl rfl ?_|refine ze rfl (c31) rfl ?_|refine zk rfl rfl (fun _=>c31) rfl rfl ?_))
 refine z5 rfl (fun h=>absurd h (by decide)) (fun _=>?_)
 generalize Nat.gcd p q=g at hg hg1 c31 ⊢
 (repeat (first|refine zs rfl ?_|refine zg rfl rfl rfl ?_|refine zd ?_|refine q8 ?_|refine q7 ?_|refine zc rfl (c31) rfl rfl ?_|refine ze rfl (c31) rfl ?_|refine zk rfl rfl (fun _=>c31) rfl rfl ?_))
 refine j1e (t':=_) rfl rfl trivial trivial (by omega) rfl ?_
 have ht:Int.tmod ((a:Int)-b) g=0:=Int.tmod_eq_zero_of_dvd hg
 generalize Int.tmod ((a:Int)-b) g=z at ht ⊢
 subst ht
 (repeat (first|refine zs rfl ?_|refine zg rfl rfl rfl ?_|refine zd ?_|refine q8 ?_|refine q7 ?_))
 refine z5 rfl (fun h=>absurd h (by decide)) (fun _=>?_)
 have hD0:0≤(max (a:Int) b-a+p-1) / p:=Int.ediv_nonneg (by omega) (by omega)
 have hD:(max (a:Int) b-a+p-1) / p*p≤max (a:Int) b-a+p-1:=Int.ediv_mul_le _ (by omega)
 have hD1:0≤(max (a:Int) b-a+p-1) / p*p:=Int.mul_nonneg hD0 (by omega)
 have hD2:(max (a:Int) b-a+p-1) / p≤1000:=by
  have:=Int.ediv_le_self (a:=max (a:Int) b-a+p-1) (p:Int) (by omega);omega
 have hS:mtS p a b=(a:Int)+(max (a:Int) b-a+p-1) / p*p:=rfl
 have hSb:(b:Int)≤mtS p a b:=by
  have:=Int.emod_add_mul_ediv (max (a:Int) b-a+p-1) p
  have h2:=Int.emod_lt_of_pos (max (a:Int) b-a+p-1) (show(0:Int)<p by omega)
  rw[Int.mul_comm] at this
  omega
 (repeat (first|refine zu rfl ?_|refine zg rfl rfl rfl ?_|refine zd ?_|refine q8 ?_|refine q7 ?_))
 refine JK.loop (fun j:Nat=>⟨[(0,vI p),(1,vI q),(3,vI b),(11,vI g),(13,vI (mtS p a b+j*p))],[],0⟩) (fun j=>j≤J) (fun j=>J-j) 0 (Nat.zero_le _) ?_ fun j hj=>?_
 ·rw[hS,show((0:Nat):Int)*p=0 from Int.zero_mul _,Int.add_zero]
  (exact z6 (by conv=>lhs;reduce))
 have hjp:0≤(j:Int)*p:=Int.mul_nonneg (by omega) (by omega)
 have hjp2:(j:Int)*p≤1000*30:=Int.mul_le_mul (by omega) (by omega) (by omega) (by omega)
 have hsu:mtS p a b+((j+1:Nat):Int)*p=mtS p a b+j*p+p:=by rw[Int.natCast_succ,Int.add_mul];omega
 have hS2:mtS p a b≤1000:=by omega
 have hn':=hn j
 have hy':j=J→(mtS p a b+j*p-b) % q=0:=fun e=>by rw[e];exact hy
 have hfin:j=J→mtS p a b+(J:Int)*p=mtS p a b+j*p:=fun e=>by rw[e]
 have hmb:(b:Int)≤mtS p a b+j*p:=by omega
 have hmb2:mtS p a b+(j:Int)*p≤31000:=by omega
 clear hS hD hD0 hD1 hD2
 generalize mtS p a b+(j:Int)*p=m at *
 have hG0:0≤(p:Int) / g:=Int.ediv_nonneg (by omega) (by omega)
 have hG1:(p:Int) / g≤30:=by have:=Int.ediv_le_self (a:=(p:Int)) (g:Int) (by omega);omega
 have hG2:0≤(p:Int) / g*q:=Int.mul_nonneg hG0 (by omega)
 have hG3:(p:Int) / g*q≤30*30:=Int.mul_le_mul hG1 (by omega) (by omega) (by omega)
 clear hS2 hSb hjp hjp2 hn hy
 (repeat (first|refine zs rfl ?_|refine zg rfl rfl rfl ?_|refine zd ?_|refine q8 ?_|refine q7 ?_))
 refine z5 rfl (fun hc=>?_) (fun hc=>?_)
 ·(simp only[↓cdL] at hc;try simp only[Ty.dflt,Int.toNat_natCast] at hc)
  have hjJ:j<J:=by
   rcases Nat.lt_or_ge j J with h|h
   ·exact h
   ·exact absurd (hy' (Nat.le_antisymm hj h)) hc
  (repeat (first|refine zs rfl ?_|refine zg rfl rfl rfl ?_|refine zd ?_|refine q8 ?_|refine q7 ?_))
  refine⟨j+1,?_,hjJ,by omega⟩
  rw[hsu]
  (exact z6 (by conv=>lhs;reduce))
 ·(simp only[↓cdL] at hc;try simp only[Ty.dflt,Int.toNat_natCast] at hc)
  have hjJ:j=J:=by
   rcases Nat.lt_or_ge j J with h|h
   ·exact absurd hc (hn' h)
   ·exact Nat.le_antisymm hj h
  rw[hfin hjJ]
  (repeat (first|refine zs rfl ?_|refine zg rfl rfl rfl ?_|refine zd ?_|refine q8 ?_|refine q7 ?_))
  refine⟨.inl rfl,_,_,rfl,trivial,?_⟩
  rfl
end Go.Proofs.YtjfafggkkjgpeaaGreatDoor
namespace Go.Proofs.YtjfafggkkjgpeaaGreatDoor
theorem bez:∀ (p q:Nat),∃ x y:Int,(p:Int)*x+q*y=(Nat.gcd p q:Nat):=fun p q=>by
 induction p,q using Nat.gcd.induction with
 |H0 n=>exact⟨0,1,by simp⟩
 |H1 m n hm ih=>
  obtain⟨x,y,h⟩:=ih
  rw[Nat.gcd_rec m n]
  refine⟨y-(n / m:Nat)*x,x,?_⟩
  rw[← h]
  have e:(n:Int)=((n % m:Nat):Int)+m*(n / m:Nat):=by
   have:=Nat.mod_add_div n m
   exact_mod_cast this.symm
  generalize ((n % m:Nat):Int)=r at *
  generalize ((n / m:Nat):Int)=d at *
  rw[e,Int.mul_sub,Int.add_mul,Int.mul_assoc]
  omega
theorem least{Q:Nat→Prop}(n:Nat)(h:Q n):∃ m,m≤n∧Q m∧∀ k,k<m→¬ Q k:=by
 induction n using Nat.strongRecOn with
 |ind n ih=>
  by_cases e:∃ k,k<n∧Q k
  ·obtain⟨k,hk,hq⟩:=e
   obtain⟨m,h1,h2,h3⟩:=ih k hk hq
   exact⟨m,by omega,h2,h3⟩
  ·exact⟨n,Nat.le_refl _,h,fun k hk hq=>e ⟨k,hk,hq⟩⟩
variable {p q a b:Nat}
theorem mtS_bd(hp:1≤p):max (a:Int) b≤mtS p a b∧mtS p a b<max (a:Int) b+p∧∃ d:Int,mtS p a b=a+d*p:=by
 have h1:=Int.emod_add_mul_ediv (max (a:Int) b-a+p-1) p
 have h2:=Int.emod_lt_of_pos (max (a:Int) b-a+p-1) (show(0:Int)<p by omega)
 have h3:=Int.emod_nonneg (max (a:Int) b-a+p-1) (show(p:Int)≠0 by omega)
 rw[Int.mul_comm] at h1
 refine⟨?_,?_,(max (a:Int) b-a+p-1) / p,rfl⟩<;>unfold mtS<;>omega
theorem meet_ex(hp:1≤p)(hq:1≤q)(hg:((Nat.gcd p q:Nat):Int)∣(a:Int)-b):∃ J:Nat,J≤q∧(mtS p a b+J*p-b) % q=0∧∀ j:Nat,j<J→(mtS p a b+j*p-b) % q≠0:=by
 obtain⟨_,_,d,hd⟩:=mtS_bd (a:=a) (b:=b) hp
 obtain⟨x,y,hb⟩:=bez p q
 have hgp:((Nat.gcd p q:Nat):Int)∣p:=Int.natCast_dvd_natCast.2 (Nat.gcd_dvd_left p q)
 generalize ((Nat.gcd p q:Nat):Int)=g at *
 have hc:g∣mtS p a b-b:=by
  rw[hd,show(a:Int)+d*p-b=(a-b)+d*p by omega]
  exact Int.dvd_add hg (Int.dvd_trans hgp (Int.dvd_mul_left _ _))
 obtain⟨c,hc⟩:=hc
 have h0:=Int.emod_nonneg (-(c*x)) (show(q:Int)≠0 by omega)
 have h1:=Int.emod_lt_of_pos (-(c*x)) (show(0:Int)<q by omega)
 have h2:=Int.emod_add_mul_ediv (-(c*x)) q
 have hgood:(mtS p a b+((-(c*x)) % (q:Int)).toNat*p-b) % q=0:=by
  rw[Int.toNat_of_nonneg h0]
  generalize (-(c*x)) % (q:Int)=j at *
  generalize (-(c*x)) / (q:Int)=z at *
  refine Int.emod_eq_zero_of_dvd ⟨c*y-z*p,?_⟩
  rw[show mtS p a b+j*p-b=g*c+j*p by omega,show j=-(c*x)-q*z by omega,← hb]
  simp only[Int.add_mul,Int.sub_mul,Int.mul_sub,Int.neg_mul]
  have e1:(p:Int)*x*c=c*x*p:=by rw[Int.mul_comm (p:Int) x,Int.mul_assoc,Int.mul_comm (p:Int) c,← Int.mul_assoc,Int.mul_comm x c]
  have e2:(q:Int)*y*c=q*(c*y):=by rw[Int.mul_assoc,Int.mul_comm y c]
  have e3:(q:Int)*z*p=q*(z*p):=Int.mul_assoc _ _ _
  omega
 obtain⟨J,k1,k2,k3⟩:=least (Q:=fun j:Nat=>(mtS p a b+j*p-b) % q=0) _ hgood
 exact⟨J,by omega,k2,k3⟩
theorem q6d(hp:1≤p)(hq:1≤q):∃ k i:Nat,1≤k∧1≤i∧i≤p∧(p:Int) / (Nat.gcd p q:Nat)*q=k*p∧(p:Int) / (Nat.gcd p q:Nat)*q=q*i∧(p:Int)*q / (Nat.gcd p q:Nat)=(p:Int) / (Nat.gcd p q:Nat)*q:=by
 have hg1:1≤Nat.gcd p q:=Nat.gcd_pos_of_pos_left _ (by omega)
 obtain⟨i,hi⟩:=Nat.gcd_dvd_left p q
 obtain⟨k,hk⟩:=Nat.gcd_dvd_right p q
 generalize Nat.gcd p q=g at *
 have hg0:(g:Int)≠0:=by omega
 have h1:(p:Int) / g=i:=by rw[hi,Int.natCast_mul];exact Int.mul_ediv_cancel_left _ hg0
 have hk1:1≤k:=by
  rcases Nat.eq_zero_or_pos k with h|h
  ·subst h;simp at hk;omega
  ·exact h
 have hi1:1≤i:=by
  rcases Nat.eq_zero_or_pos i with h|h
  ·subst h;simp at hi;omega
  ·exact h
 refine⟨k,i,hk1,hi1,?_,?_,?_,?_⟩
 ·rw[hi];exact Nat.le_mul_of_pos_left _ hg1
 ·rw[h1,hk,hi];push_cast;rw[← Int.mul_assoc,Int.mul_comm (i:Int) g,Int.mul_comm (k:Int),Int.mul_assoc]
 ·rw[h1,Int.mul_comm]
 ·rw[h1]
  conv=>lhs;rw[hi]
  push_cast
  rw[Int.mul_assoc]
  exact Int.mul_ediv_cancel_left _ hg0
theorem z79(hp:1≤p)(hq:1≤q){J:Nat}(hy:(mtS p a b+J*p-b) % q=0)(hn:∀ j:Nat,j<J→(mtS p a b+j*p-b) % q≠0) :
  max (a:Int) b≤mtS p a b+J*p∧mtS p a b+J*p<max (a:Int) b+(p:Int) / (Nat.gcd p q:Nat)*q∧(mtS p a b+J*p-a) % p=0:=by
 obtain⟨h1,h2,d,hd⟩:=mtS_bd (a:=a) (b:=b) hp
 obtain⟨k,i,hk1,hi1,_,e1,e2,_⟩:=q6d hp hq
 have hJp:0≤(J:Int)*p:=Int.mul_nonneg (by omega) (by omega)
 refine⟨by omega,?_,?_⟩
 ·refine Classical.byContradiction fun hlt=>?_
  have hkJ:k≤J:=by
   refine Classical.byContradiction fun hc=>?_
   have:(J:Int)+1≤k:=by omega
   have:=Int.mul_le_mul_of_nonneg_right this (show(0:Int)≤p by omega)
   rw[Int.add_mul] at this
   rw[e1] at hlt
   omega
  refine hn (J-k) (by omega) ?_
  have e3:(((J-k:Nat):Nat):Int)*p=J*p-k*p:=by rw[← Int.sub_mul];congr 1;omega
  rw[e3,← e1,e2,show mtS p a b+((J:Int)*p-q*i)-b=(mtS p a b+J*p-b)-q*i by omega]
  exact Int.emod_eq_zero_of_dvd (Int.dvd_sub (Int.dvd_of_emod_eq_zero hy) (Int.dvd_mul_right _ _))
 ·rw[hd,show(a:Int)+d*p+J*p-a=d*p+J*p by omega]
  exact Int.emod_eq_zero_of_dvd (Int.dvd_add (Int.dvd_mul_left _ _) (Int.dvd_mul_left _ _))
theorem z8a(hg:¬ ((Nat.gcd p q:Nat):Int)∣(a:Int)-b)(u:Int):¬ ((u-a) % p=0∧(u-b) % q=0):=fun⟨h1,h2⟩=>hg (by
 have h1:=Int.dvd_trans (Int.natCast_dvd_natCast.2 (Nat.gcd_dvd_left p q)) (Int.dvd_of_emod_eq_zero h1)
 have h2:=Int.dvd_trans (Int.natCast_dvd_natCast.2 (Nat.gcd_dvd_right p q)) (Int.dvd_of_emod_eq_zero h2)
 have:=Int.dvd_sub h2 h1
 rwa[show u-(b:Int)-(u-a)=a-b by omega] at this)
end Go.Proofs.YtjfafggkkjgpeaaGreatDoor
namespace Ox
open Go Go.RowKit Ox.Rn
theorem j1q{Z:Mem→Prop}{P:Program}{f:FuncId}{r:AV}(hr:r.scal=true)(h:FnL Z P f .anil (·=r)):FnZ Z P f r.toV where
 call:=h.call
 run:=fun M w hz hM=>by
  let ρ:Env:=⟨fun _=>0,fun _=>.bool,fun _=>Go.undef⟩
  refine(h.run M ρ w [] hz hM (by simp only[AV.rvs]) trivial).mono ?_
  rintro e w' ⟨v,r',M',rfl,rfl,_,hv,hbl,_⟩
  exact⟨by rw[(p5 hr).1 hv],hbl⟩
end Ox
namespace Go.Proofs.YtjfafggkkjgpeaaGreatDoor
open Go Go.RowKit Ox Ox.Sh Ox.Se Ox.Rn
attribute [local irreducible] JC JL JK JW
variable {gs:List Gt}
theorem works03(h1:FnZ (Laid gs) Tryz.prog 44 (.bool true))(h2:FnZ (Laid gs) Tryz.prog 45 (.bool true))(h3:FnZ (Laid gs) Tryz.prog 46 (.bool true)):FnZ (Laid gs) Tryz.prog 22 (.bool true):=by
 refine j1q (r:=vB true) rfl (Ox.FnL.intro xok Tryz.func22 rfl Tryz.call22 (Nat.le_of_ble_eq_true rfl) (fun E M0 up hz=>?_))
 refine z8 ?_
 (repeat (first|refine zs rfl ?_|refine zg rfl rfl rfl ?_|refine zd ?_|refine q8 ?_|refine q7 ?_))
 refine q5t rfl h1 hz rfl trivial ?_
 (repeat (first|refine zs rfl ?_|refine zg rfl rfl rfl ?_|refine zd ?_|refine q8 ?_|refine q7 ?_))
 refine q34 rfl rfl rfl h2 hz rfl trivial ?_
 (repeat (first|refine zs rfl ?_|refine zg rfl rfl rfl ?_|refine zd ?_|refine q8 ?_|refine q7 ?_))
 refine q34 rfl rfl rfl h3 hz rfl trivial ?_
 (repeat (first|refine zs rfl ?_|refine zg rfl rfl rfl ?_|refine zd ?_|refine q8 ?_|refine q7 ?_))
 refine⟨.inl rfl,_,_,rfl,trivial,?_⟩
 rfl
theorem works04(h1:FnZ (Laid gs) Tryz.prog 22 (.bool true))(h2:FnZ (Laid gs) Tryz.prog 23 (.bool true)):FnZ (Laid gs) Tryz.prog 7 (.bool true):=by
 refine j1q (r:=vB true) rfl (Ox.FnL.intro xok Tryz.func7 rfl Tryz.call7 (Nat.le_of_ble_eq_true rfl) (fun E M0 up hz=>?_))
 refine z8 ?_
 (repeat (first|refine zs rfl ?_|refine zg rfl rfl rfl ?_|refine zd ?_|refine q8 ?_|refine q7 ?_))
 refine q5t rfl h1 hz rfl trivial ?_
 (repeat (first|refine zs rfl ?_|refine zg rfl rfl rfl ?_|refine zd ?_|refine q8 ?_|refine q7 ?_))
 refine q34 rfl rfl rfl h2 hz rfl trivial ?_
 (repeat (first|refine zs rfl ?_|refine zg rfl rfl rfl ?_|refine zd ?_|refine q8 ?_|refine q7 ?_))
 refine⟨.inl rfl,_,_,rfl,trivial,?_⟩
 rfl
end Go.Proofs.YtjfafggkkjgpeaaGreatDoor
namespace Go.Proofs.YtjfafggkkjgpeaaGreatDoor
open Go Go.RowKit Ox Ox.Sh Ox.Se
attribute [local irreducible] JC JL JK JW
attribute [local irreducible] ovA stA pkV
def cnS(u:List Int):List Int:=u.map fun z=>1+z % 5
theorem q6y(u:List Int):(cnS u).length=u.length:=by simp[cnS]
theorem z99(u:List Int){i:Nat}(h:i<u.length):(cnS u).getD i 0=1+u.getD i 0 % 5:=by
 unfold cnS
 rw[List.getD_eq_getElem?_getD,List.getElem?_map,List.getD_eq_getElem?_getD,List.getElem?_eq_getElem h];rfl
theorem cnS_sum(u:List Int){i:Nat}(h:i<u.length):sumC (cnS u) (i+1)=sumC (cnS u) i+(1+u.getD i 0 % 5):=by
 unfold sumC
 rw[n5,z99 u h]
theorem cnS_take(P m:Int)(u:List Int){i:Nat}(h:i<u.length):bandL P m ((cnS u).take (i+1))=bandL P m ((cnS u).take i)++[(m,(1+u.getD i 0 % 5)*P,())]:=by
 have hl:i<(cnS u).length:=by rw[q6y];exact h
 rw[List.take_succ_eq_append_getElem hl]
 unfold bandL
 rw[List.map_append,← z99 u h,List.getD_eq_getElem?_getD,List.getElem?_eq_getElem hl];rfl
variable {gs:List Rn.Gt}
abbrev v8(n:Int):AV:=.val (.int .u8) n
set_option maxHeartbeats 2000000 in
theorem fn4(h7:FnZ (Rn.Laid gs) Tryz.prog 7 (.bool true))(x y a b:Nat)(hx:x≤255)(hy:y≤255)(ha:a≤255)(hb:b≤255)(u w:List Int)(hu:∀ z∈u,0≤z∧z≤255)(hw:∀ z∈w,0≤z∧z≤255) :
  FnL (Rn.Laid gs) Tryz.prog 4 (.acons (v8 x) (.acons (v8 y) (.acons (v8 a) (.acons (v8 b) (.acons (vU u) (.acons (vU w) .anil)))))) (·=vB true):=by
 refine Ox.FnL.intro xok Tryz.func4 rfl Tryz.call4 (Nat.le_of_ble_eq_true rfl) (fun E M0 up hz=>?_)
 refine z8 ?_
 refine JK.lenOf 4 rfl fun hlen=>?_
 replace hlen:u.length≤9223372036854775807:=hlen.1
 refine JK.lenOf 5 rfl fun hlen2=>?_
 replace hlen2:w.length≤9223372036854775807:=hlen2.1
 (repeat (first|refine zs rfl ?_|refine zg rfl rfl rfl ?_|refine zd ?_|refine q8 ?_|refine q7 ?_))
 refine z5 rfl (fun hc=>?_) (fun hc=>?_)
 ·(repeat (first|refine zs rfl ?_|refine zg rfl rfl rfl ?_|refine zd ?_|refine q8 ?_|refine q7 ?_))
  refine q5t rfl h7 hz rfl trivial ?_
  (repeat (first|refine zs rfl ?_|refine zg rfl rfl rfl ?_|refine zd ?_|refine q8 ?_|refine q7 ?_))
  refine⟨.inl rfl,_,_,rfl,trivial,?_⟩
  rfl
 have hcc:(1≤u.length∧u.length≤8)∧w.length≤30:=by
  by_cases h1:(u.length:Int)<1<;>by_cases h2:(u.length:Int)>8<;>by_cases h3:(w.length:Int)>30<;>simp[h1,h2,h3] at hc<;>omega
 obtain⟨⟨hu1,hu8⟩,hw30⟩:=hcc
 clear hc
 obtain⟨p,hp⟩:∃ p:Nat,p=1+x % 30:=⟨_,rfl⟩
 obtain⟨q,hq⟩:∃ q:Nat,q=1+y % 30:=⟨_,rfl⟩
 have ep:1+(x:Int) % 30=p:=by omega
 have eq:1+(y:Int) % 30=q:=by omega
 have hpb:1≤p∧p≤30:=by omega
 have hqb:1≤q∧q≤30:=by omega
 have c14:Ox.Fn Tryz.prog 14 (.acons (vI (1+(x:Int) % 30)) (.acons (vI (1+(y:Int) % 30)) .anil)) (·=vI (Nat.gcd p q:Nat)):=by
  rw[ep,eq];exact fn14 p q (by omega) (by omega)
 have hpq:(1+(x:Int) % 30)*(1+(y:Int) % 30)=p*q:=by rw[ep,eq]
 have hpq2:(p:Int)*q≤30*30:=Int.mul_le_mul (by omega) (by omega) (by omega) (by omega)
 have hpq0:0≤(p:Int)*q:=Int.mul_nonneg (by omega) (by omega)
 obtain⟨k,i0,hk1,hi1,hip,t1,t2,t3⟩:=q6d hpb.1 hqb.1
 have hgp:1≤Nat.gcd p q:=Nat.gcd_pos_of_pos_left _ (by omega)
 by_cases hg:((Nat.gcd p q:Nat):Int)∣(a:Int)-b
 ·obtain⟨J,j1,j2,j3⟩:=meet_ex hpb.1 hqb.1 hg
  have c13:Ox.Fn Tryz.prog 13 (.acons (vI (1+(x:Int) % 30)) (.acons (vI (1+(y:Int) % 30)) (.acons (vI a) (.acons (vI b) .anil)))) (·=vMt (mtS p a b+J*p) ((p:Int) / (Nat.gcd p q:Nat)*q) 0):=by
   rw[ep,eq];exact fn13y p q a b J hpb hqb ha hb hg (by omega) j3 j2
  obtain⟨m1,m2,m3⟩:=z79 hpb.1 hqb.1 j2 j3
  have hM0:0≤mtS p a b+J*p:=by omega
  generalize mtS p a b+(J:Int)*p=M at *
  generalize Nat.gcd p q=g at *
  have hT0:1≤(p:Int) / g*q∧(p:Int) / g*q≤900:=by
   have h1:(1:Int)*1≤(q:Int)*i0:=Int.mul_le_mul (by omega) (by omega) (by omega) (by omega)
   have h2:(q:Int)*i0≤30*30:=Int.mul_le_mul (by omega) (by omega) (by omega) (by omega)
   omega
  generalize (p:Int) / g*q=T at *
  (repeat (first|refine zs rfl ?_|refine zg rfl rfl rfl ?_|refine zd ?_|refine q8 ?_|refine q7 ?_|refine zc rfl (c13) rfl rfl ?_|refine ze rfl (c13) rfl ?_|refine zk rfl rfl (fun _=>c13) rfl rfl ?_|refine zc rfl (c14) rfl rfl ?_|refine ze rfl (c14) rfl ?_|refine zk rfl rfl (fun _=>c14) rfl rfl ?_))
  refine q0o (s':=⟨[(4,vU u),(5,vU w),(12,vB false),(13,vI p),(14,vI q),(15,vI a),(16,vI b),(17,vI M),(18,vI T),(19,vI 0),(20,vI T),(82,vB (0==5))],[],0⟩) ?_ ?_
  ·rw[ep,eq,t3]
   (exact z6 (by conv=>lhs;reduce))
  refine z5 rfl (fun h=>absurd h (by decide)) (fun _=>?_)
  (repeat (first|refine zs rfl ?_|refine zg rfl rfl rfl ?_|refine zd ?_|refine q8 ?_|refine q7 ?_))
  refine z5 rfl (fun h=>absurd h ?_) (fun _=>?_)
  ·have e1:¬ M<max (a:Int) b:=by omega
   have e2:¬ M ≥ max (a:Int) b+T:=by omega
   simp[e1,e2,m3,j2]
  (repeat (first|refine zs rfl ?_|refine zg rfl rfl rfl ?_|refine zd ?_|refine q8 ?_|refine q7 ?_))
  refine z5u 0 41 ptT (p:=vI T) (b:=.val .nil ()) rfl rfl (fun _=>trivial) (fun _=>trivial) ?_
  refine JK.loop (fun i:Nat=>⟨[(4,vU u),(5,vU w),(12,vB false),(15,vI a),(17,vI M),(20,vI T),(22,.lf (.optr 0 [])),(23,vI (sumC (cnS u) i)),(24,vI (i:Int))],[(0,.cell seT (.mix (vI T) (.mix (.lf (.osl 1)) (.val .nil ())))),(1,.sl 41 ptT (bandL T (M % T) ((cnS u).take i)))],2⟩)
   (fun i=>i≤u.length∧0≤sumC (cnS u) i∧sumC (cnS u) i≤5*i) (fun i=>u.length-i) 0 ⟨Nat.zero_le _,Int.le_refl 0,Int.le_refl 0⟩ (by(exact z6 (by conv=>lhs;reduce))) fun i ⟨hi,hs0,hs1⟩=>?_
  have hsu:=cnS_sum u (i:=i)
  have htk:=cnS_take T (M % T) u (i:=i)
  have hbl:(bandL T (M % T) ((cnS u).take i)).length=i:=by rw[q2i,List.length_take,q6y];omega
  have hgi:i<u.length→0≤u.getD i 0∧u.getD i 0≤255:=fun h=>hu _ (by rw[List.getD_eq_getElem?_getD,List.getElem?_eq_getElem h];exact List.getElem_mem h)
  have hfin:i=u.length→bandL T (M % T) ((cnS u).take i)=bandL T (M % T) (cnS u)∧sumC (cnS u) i=sumC (cnS u) (cnS u).length:=fun e=>by
   rw[q6y,e,List.take_of_length_le (by rw[q6y];omega)];exact⟨rfl,rfl⟩
  generalize bandL T (M % T) ((cnS u).take i)=D at htk hbl hfin ⊢
  generalize sumC (cnS u) i=S at hs0 hs1 hsu hfin ⊢
  (repeat (first|refine zs rfl ?_|refine zg rfl rfl rfl ?_|refine zd ?_|refine q8 ?_|refine q7 ?_))
  refine z5 rfl (fun hc=>?_) (fun hc=>?_)
  ·(simp only[↓cdL] at hc;try simp only[Ty.dflt,Int.toNat_natCast] at hc)
   have hil:i<u.length:=by omega
   obtain⟨g1,g2⟩:=hgi hil
   have hsu:=hsu hil
   have htk:=htk hil
   have g3:0≤M % T∧M % T<T:=⟨Int.emod_nonneg _ (by omega),Int.emod_lt_of_pos _ (by omega)⟩
   have hz0:u.getD ((i:Int)).toNat (Ty.int .u8).dflt=u.getD i 0:=rfl
   (repeat (first|refine zs rfl ?_|refine zg rfl rfl rfl ?_|refine q8 ?_|refine q7 ?_))
   rw[hz0]
   generalize u.getD i 0=z at g1 g2 hsu htk ⊢
   have g4:0≤(1+z % 5)*T:=Int.mul_nonneg (by omega) (by omega)
   have g5:(1+z % 5)*T≤5*900:=Int.mul_le_mul (by omega) (by omega) (by omega) (by omega)
   refine q9u xk (Tryz.f4.body.getD .skip) rfl 13 rfl ?_
   (refine j0 0 xk rfl rfl ?_;refine j0 2 xk rfl rfl ?_;refine j0 3 xk rfl rfl ?_;refine j0 4 xk rfl rfl ?_;refine j0 5 xk rfl rfl ?_;refine j0 6 xk rfl rfl ?_;refine j0 7 xk rfl rfl ?_;refine k7 1 xk rfl rfl ?_;refine k8 8 [] xk ?_ ?_;(focus (repeat (first|exact StF.nil|refine x4 rfl rfl rfl ?_)));refine(BrF.one rfl rfl ?_ BrF.nil);(· (first|refine r7 xk rfl rfl ?_|refine o5 xk rfl rfl ?_);refine y6 ?_;refine k8 9 [] xk ?_ ?_;(focus (repeat (first|exact StF.nil|refine x4 rfl rfl rfl ?_)));refine(BrF.one rfl rfl ?_ BrF.nil);(· (refine o5 xk rfl rfl ?_);refine y6 ?_;refine k8 10 [] xk ?_ ?_;(focus (repeat (first|exact StF.nil|refine x4 rfl rfl rfl ?_)));refine(BrF.one rfl rfl ?_ BrF.nil);(· (first|refine o5 xk rfl rfl ?_|refine JL.M0 xk rfl ?_|refine r7 xk rfl rfl ?_);refine y6 ?_;refine j0 11 xk rfl rfl ?_;refine k8 12 [] xk StF.nil (BrF.one rfl rfl ?_ BrF.nil);(· (first|refine JL.M0 xk rfl ?_);refine y6 ?_;refine q0p xk StF.nil ?_;(((repeat (first|refine zs rfl ?_|refine zg rfl rfl rfl ?_|refine zd ?_|refine q8 ?_|refine q7 ?_));refine⟨i+1,?_,⟨by omega,by omega,by omega⟩,by omega⟩;rw[hsu,htk];(exact z6 (by conv=>lhs;reduce)))))))))
  ·(simp only[↓cdL] at hc;try simp only[Ty.dflt,Int.toNat_natCast] at hc)
   have hiu:i=u.length:=by omega
   obtain⟨f1,f2⟩:=hfin hiu
   rw[f1,f2]
   clear hfin hsu htk hgi
   (repeat (first|refine zs rfl ?_|refine zg rfl rfl rfl ?_|refine q8 ?_|refine q7 ?_))
   have hcl:(cnS u).length=u.length:=q6y u
   have hTm:0≤M % T∧M % T<T:=⟨Int.emod_nonneg _ (by omega),Int.emod_lt_of_pos _ (by omega)⟩
   have haT:0≤(a:Int) % T∧(a:Int) % T<T:=⟨Int.emod_nonneg _ (by omega),Int.emod_lt_of_pos _ (by omega)⟩
   have hbd:(bandL T (M % T) (cnS u)).length=u.length:=by rw[q2i,hcl]
   have hall:=band_all (P:=T) (m:=M % T) (cs:=cnS u) (by omega) hTm (by omega) (by omega) (fun c hc=>by
    obtain⟨z,hz,rfl⟩:=List.mem_map.1 hc
    have:=hu z hz
    have g5:(1+z % 5)*T≤5*900:=Int.mul_le_mul (by omega) (by omega) (by omega) (by omega)
    exact⟨by omega,by omega⟩) (o:=ordR w u.length) (by rw[hcl];exact q56 w u.length) haT
   have c8:=fn8 T (bandL T (M % T) (cnS u)) w (by omega) hw (by omega)
   rw[hbd] at c8
   generalize hS:sumC (cnS u) (cnS u).length=S at *
   obtain⟨⟨b1,b2⟩,b3,b4,⟨b5,b6⟩,b7,b8⟩:=hall
   generalize bandL T (M % T) (cnS u)=D at *
   have c9:=fn9 T D (iL (ordR w u.length))
   have c15:=fn15 T D
   have c16:=fn16 T D
   have c17:=fn17 T D (a % T)
   have c18:=fn18 T D
   have c19:=fn19 T D (iL (ordR w u.length))
   rw[b1,b2] at c9
   rw[b5,b6] at c17
   rw[b8] at c19
   have hz0:=(q4f.1 b1).1
   rw[b3,hz0] at c15
   rw[b4,hz0] at c16
   rw[b7] at c18
   clear b1 b2 b3 b4 b5 b6 b7 b8 hz0
   (refine j1f [1] [5,12,15,17,20,22,23,179,180] rfl ?_)
   (repeat (first|refine zt rfl rfl ?_|refine zs rfl ?_|refine zg rfl rfl rfl ?_|refine zd ?_|refine q8 ?_|refine q7 ?_|refine zc rfl (c8) rfl rfl ?_|refine ze rfl (c8) rfl ?_|refine zk rfl rfl (fun _=>c8) rfl rfl ?_|refine zc rfl (c9) rfl rfl ?_|refine ze rfl (c9) rfl ?_|refine zk rfl rfl (fun _=>c9) rfl rfl ?_|refine zc rfl (c15) rfl rfl ?_|refine ze rfl (c15) rfl ?_|refine zk rfl rfl (fun _=>c15) rfl rfl ?_|refine zc rfl (c16) rfl rfl ?_|refine ze rfl (c16) rfl ?_|refine zk rfl rfl (fun _=>c16) rfl rfl ?_|refine zc rfl (c17) rfl rfl ?_|refine ze rfl (c17) rfl ?_|refine zk rfl rfl (fun _=>c17) rfl rfl ?_|refine zc rfl (c18) rfl rfl ?_|refine ze rfl (c18) rfl ?_|refine zk rfl rfl (fun _=>c18) rfl rfl ?_|refine zc rfl (c19) rfl rfl ?_|refine ze rfl (c19) rfl ?_|refine zk rfl rfl (fun _=>c19) rfl rfl ?_))
   refine q34 rfl ?_ rfl h7 hz rfl trivial ?_
   ·simp[wantB]
   (repeat (first|refine zs rfl ?_|refine zg rfl rfl rfl ?_|refine zd ?_|refine q8 ?_|refine q7 ?_))
   refine⟨.inl rfl,_,_,rfl,trivial,?_⟩
   simp
 ·have c13:Ox.Fn Tryz.prog 13 (.acons (vI (1+(x:Int) % 30)) (.acons (vI (1+(y:Int) % 30)) (.acons (vI a) (.acons (vI b) .anil)))) (·=vMt 0 0 5):=by
   rw[ep,eq];exact fn13n p q a b hpb hqb ha hb hg
  have hno:=z8a hg
  generalize Nat.gcd p q=g at *
  have hT0:1≤(p:Int) / g*q∧(p:Int) / g*q≤900:=by
   have h1:(1:Int)*1≤(q:Int)*i0:=Int.mul_le_mul (by omega) (by omega) (by omega) (by omega)
   have h2:(q:Int)*i0≤30*30:=Int.mul_le_mul (by omega) (by omega) (by omega) (by omega)
   omega
  generalize (p:Int) / g*q=T at *
  (repeat (first|refine zs rfl ?_|refine zg rfl rfl rfl ?_|refine zd ?_|refine q8 ?_|refine q7 ?_|refine zc rfl (c13) rfl rfl ?_|refine ze rfl (c13) rfl ?_|refine zk rfl rfl (fun _=>c13) rfl rfl ?_|refine zc rfl (c14) rfl rfl ?_|refine ze rfl (c14) rfl ?_|refine zk rfl rfl (fun _=>c14) rfl rfl ?_))
  refine q0o (s':=⟨[(12,vB false),(13,vI p),(14,vI q),(15,vI a),(16,vI b),(20,vI T),(82,vB (5==5))],[],0⟩) ?_ ?_
  ·rw[ep,eq,t3]
   (exact z6 (by conv=>lhs;reduce))
  refine z5 rfl (fun _=>?_) (fun h=>absurd h (by decide))
  (repeat (first|refine zs rfl ?_|refine zg rfl rfl rfl ?_|refine zd ?_|refine q8 ?_|refine q7 ?_))
  refine JK.loop (fun j:Nat=>⟨[(12,vB false),(13,vI p),(14,vI q),(15,vI a),(16,vI b),(20,vI T),(21,vI (max (a:Int) b+j))],[],0⟩) (fun j=>(j:Int)≤T) (fun j=>T.toNat-j) 0 (by omega) ?_ fun j hj=>?_
  ·rw[show((0:Nat):Int)=0 from rfl,Int.add_zero]
   (exact z6 (by conv=>lhs;reduce))
  have hno':=hno (max (a:Int) b+j)
  (repeat (first|refine zs rfl ?_|refine zg rfl rfl rfl ?_|refine zd ?_|refine q8 ?_|refine q7 ?_))
  refine z5 rfl (fun hc=>?_) (fun hc=>?_)
  ·(simp only[↓cdL] at hc;try simp only[Ty.dflt,Int.toNat_natCast] at hc)
   (repeat (first|refine zs rfl ?_|refine zg rfl rfl rfl ?_|refine zd ?_|refine q8 ?_|refine q7 ?_))
   refine z5 rfl (fun h=>absurd h fun h=>hno' (by simpa using h)) (fun _=>?_)
   (repeat (first|refine zs rfl ?_|refine zg rfl rfl rfl ?_|refine zd ?_|refine q8 ?_|refine q7 ?_))
   refine⟨j+1,?_,by omega,by omega⟩
   rw[show max (a:Int) b+((j+1:Nat):Int)=max (a:Int) b+j+1 by omega]
   (exact z6 (by conv=>lhs;reduce))
  ·(repeat (first|refine zs rfl ?_|refine zg rfl rfl rfl ?_|refine zd ?_|refine q8 ?_|refine q7 ?_))
   refine q5t rfl h7 hz rfl trivial ?_
   (repeat (first|refine zs rfl ?_|refine zg rfl rfl rfl ?_|refine zd ?_|refine q8 ?_|refine q7 ?_))
   refine⟨.inl rfl,_,_,rfl,trivial,?_⟩
   rfl
end Go.Proofs.YtjfafggkkjgpeaaGreatDoor
