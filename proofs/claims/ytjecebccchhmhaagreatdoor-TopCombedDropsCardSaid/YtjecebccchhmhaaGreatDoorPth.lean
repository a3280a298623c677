/- Texts of the proof of the statement that the last text proves. -/
import Derived.Test.YtjecebccchhmhaaGreatDoorPtg
set_option linter.all false
set_option maxHeartbeats 2000000
variable{f:Go.FuncId}{V:Go.Value}{up:Nat→Nat→Go.Value}{cs:List Prop}
namespace Go.Proofs.YtjecebccchhmhaaGreatDoor.Cb
open Go Go.RowKit Ox Ox.Gl
attribute [local irreducible] JC JL JK JW tbL
abbrev wyT:Ty:=.arr 2 tbT
abbrev vWy(g h:Nat→Int):AV:=.val wyT [tbL g,tbL h]
def zeroT(_:Nat):Int:=0
def oneT(k:Nat):Int:=if k=0 then 1 else 0
def cntT(m s k:Nat):Int:=if 0<s∧k=m then 1 else 0
def z55{m s t k:Nat}(hs:0<s)(ht:0<t):cntT m s k=cntT m t k:=by
 unfold cntT;by_cases h2:k=m
 ·rw[if_pos ⟨hs,h2⟩,if_pos ⟨ht,h2⟩]
 ·rw[if_neg (fun h=>h2 h.2),if_neg (fun h=>h2 h.2)]
abbrev HCt(cs ms:List TwD)(z:TwD)(st clk:Nat)(Lf:List (Nat×AV))(g h:Nat→Int):List (Nat×HO):=(15102,.cell wyT (vWy g h))::(15101,.fr 0 Lf)::HB cs ms z st clk []
variable{cs ms:List TwD}{z:TwD}
set_option maxRecDepth 20000 in
set_option maxHeartbeats 2000000 in
def count_in{E:World}{M0 M1:Mem}{nn:Nat}{rd:Option Nat}{up up1:Nat→Nat→Value}{st clk:Nat}(hk:st<clk)(hh:ms.length≤12)(h1:1≤ms.length)(hall:mkM cs ms z=2 ^ ms.length-1){Lf:List (Nat×AV)}(hLf:bdL 15101 Lf)
  {Kc:AV→List (Nat×AV)→List (Nat×HO)→Nat→Prop} (k:Kc (.val (.int .i64) 1) Lf ((15103,.iter 101 clk [st] clk)::(15102,.cell wyT (vWy oneT (cntT (2 ^ ms.length-1) 1)))::HB cs ms z st clk []) 15104) :
  JK (Ctx.sub ⟨Tryz.prog,tys,ets,mts,E,M0,nn,rd,up,0⟩ M1 Tryz.f35.ntmps none up1) [.code (Tryz.f35.body.getD .skip)] (inlQ ⟨Tryz.prog,tys,ets,mts,E,M0,nn,rd,up,0⟩ Tryz.f35.results.toList Kc)
   ⟨[(0,.lf (.optr 15000 [])),(1,vI 1)],(15101,.fr 0 Lf)::HB cs ms z st clk [],15102⟩:=by
 refine cdf (fn:=Tryz.f35) rfl ?_;have hw:=mwf1 (kt:=.int .u64) (vt:=.slice twT) (k:=((mkM cs ms z:Nat):Int)) (v:=[z]) hk;have hu:2 ^ ms.length≤2 ^ 12:=yxg (by decide) hh;have hv:2 ^ 1≤2 ^ ms.length:=yxg (by decide) h1;have c37:=fn37 (cs:=cs) (ms:=ms) hh;obtain⟨m,hm⟩:∃ m,m=2 ^ ms.length-1:=⟨_,rfl⟩;rw[← hm] at hall k c37;have hC:1≤m:=by omega
 have hD:m<4096:=by omega
 clear hu hv hm
 (iterate 8 (first|refine zs rfl ?_|refine JK.fin ?_))
 refine z7u (n:=2) xk rfl rfl rfl (by omega) trivial trivial rfl ?_;refine zK0 ?_;refine q1v (z7o xk rfl rfl trivial) rfl rfl ?_;refine zK0 ?_;have ha:∀ {l l':List (List Int)},l=l'→(15102,HO.cell wyT (.val wyT l))::(15101,.fr 0 Lf)::HB cs ms z st clk []=(15102,HO.cell wyT (.val wyT l'))::(15101,.fr 0 Lf)::HB cs ms z st clk []:=fun e=>by rw[e]
 have hz:List.replicate 4096 (0:Int)=tbL zeroT:=tb_rep;refine JK.loop (fun i:Nat=>⟨[(0,.lf (.optr 15000 [])),(1,vI 1),(4,vI 0),(5,.lf (.oarr 15102 [] 2 2)),(16,vI 2),(17,vI (i:Int))],HCt cs ms z st clk Lf zeroT zeroT,15103⟩) (fun i=>i≤2) (fun i=>2-i) 0 (yyw _) (q29 ⟨rfl,rfl,rfl,rfl,rfl,rfl,trivial⟩ (ha (l':=[tbL zeroT,tbL zeroT]) (by rw[← hz];rfl))) fun i hi=>?_;refine zK0 ?_;refine q9 rfl (fun hc=>?_) (fun hc=>?_)
 ·replace hc:=zC hc;refine zK0 ?_;refine q1v (t7 xk rfl rfl rfl rfl trivial trivial (by omega) (by omega)) rfl rfl ?_;refine zK0 ?_;exact⟨i+1,q29 ⟨rfl,rfl,rfl,rfl,rfl,rfl,trivial⟩ (ha (show List.set [tbL zeroT,tbL zeroT] (Int.toNat (i:Int)) (List.replicate 4096 (0:Int))=[tbL zeroT,tbL zeroT] by
   rw[hz,Int.toNat_natCast];obtain rfl|rfl:i=0∨i=1:=by omega
   ·rfl
   ·rfl)),by omega,by omega⟩
 ·replace hc:=zC hc;refine zK0 ?_;refine q1v (t7 xk rfl rfl rfl rfl trivial trivial (by omega) (by omega)) rfl rfl ?_;refine zK0 ?_;refine q1v (d0 q39 rfl rfl rfl trivial) rfl rfl ?_;refine q1v (r8 q39 rfl rfl rfl (ltk rfl) trivial) rfl rfl ?_
  (repeat (first|refine zs rfl ?_|refine zmr z28 rfl rfl rfl ?_))
  have hy:tbL zeroT=tbL (cntT m 0):=q9c fun k _=>by unfold cntT;rw[if_neg (by omega)];rfl
  have hA:List.set (tbL zeroT) 0 1=tbL oneT:=z8e fun k _=>rfl;refine JK.loop (σ:=Bool) (fun b=>⟨[(32,.lf (.itr 15103)),(0,.lf (.optr 15000 [])),(1,vI 1),(5,.lf (.oarr 15102 [] 2 2))],(15103,.iter 101 clk (bif b then [st] else []) clk)::HCt cs ms z st clk Lf oneT (cntT m (bif b then 1 else 0)),15104⟩) (fun _=>True) (fun b=>bif b then 0 else 1) false trivial (q29 ⟨rfl,rfl,rfl,rfl,trivial⟩ (congrArg (List.cons _) (ha (show [List.set (tbL zeroT) 0 1,tbL zeroT]=[tbL oneT,tbL (cntT m 0)] by rw[hA,hy])))) fun b _=>?_;cases b with
  |false=>
   show JK _ _ _ ⟨[(32,.lf (.itr 15103)),(0,.lf (.optr 15000 [])),(1,vI 1),(5,.lf (.oarr 15102 [] 2 2))],(15103,.iter 101 clk [] clk)::HCt cs ms z st clk Lf oneT (cntT m 0),15104⟩;refine zK0 ?_;refine q7j rfl rfl rfl hw.lt (yyl _) rfl (fun hall=>absurd (hall _ yyh) yy9) (fun e he hj=>?_);obtain rfl:=yyp.1 he;refine zK0 ?_;refine q9 rfl (fun _=>?_) (fun hc=>absurd hc (by decide));refine zK0 ?_;refine z6s rfl rfl rfl (seen':=[]) rfl rfl he hw rfl ?_;refine zK0 ?_;refine JK.loop (σ:=Bool) (fun b=>⟨[(9,vI (bif b then -1 else 0)),(7,vS64 m),(8,.val (.slice twT) [z]),(32,.lf (.itr 15103)),(0,.lf (.optr 15000 [])),(1,vI 1),(5,.lf (.oarr 15102 [] 2 2))],(15103,.iter 101 clk [st] clk)::HCt cs ms z st clk Lf oneT (cntT m (bif b then 1 else 0)),15104⟩) (fun _=>True) (fun b=>bif b then 0 else 1) false trivial (JW.same ⟨rfl,by show some (AV.val (.int .u64) ((mkM cs ms z:Nat):Int))=some (vS64 m);rw[hall],rfl,rfl,rfl,rfl,rfl,trivial⟩) fun b _=>?_;cases b with
   |false=>
    show JK _ _ _ ⟨[(9,vI 0),(7,vS64 m),(8,.val (.slice twT) [z]),(32,.lf (.itr 15103)),(0,.lf (.optr 15000 [])),(1,vI 1),(5,.lf (.oarr 15102 [] 2 2))],(15103,.iter 101 clk [st] clk)::HCt cs ms z st clk Lf oneT (cntT m 0),15104⟩;refine zK0 ?_;refine q9 rfl (fun _=>?_) (fun hc=>absurd hc (by decide));refine zK0 ?_;refine JK.loop (fun s:Nat=>⟨[(10,vS64 s),(9,vI 0),(7,vS64 m),(8,.val (.slice twT) [z]),(32,.lf (.itr 15103)),(0,.lf (.optr 15000 [])),(1,vI 1),(5,.lf (.oarr 15102 [] 2 2))],(15103,.iter 101 clk [st] clk)::HCt cs ms z st clk Lf oneT (cntT m s),15104⟩) (fun s=>s≤m+1) (fun s=>m+1-s) 0 (yyw _) (JW.same ⟨rfl,rfl,rfl,rfl,rfl,rfl,rfl,rfl,trivial⟩) fun s hs=>?_;refine zK0 ?_;refine x7 (q3n 45 rfl rfl) ?_
    (repeat (first|refine zs rfl ?_|refine zc rfl (c37) rfl rfl ?_))
    refine q9 rfl (fun hc=>?_) (fun hc=>?_)
    ·replace hc:=zC hc;have hg:List.getD (tbL oneT) (Int.toNat (s:Int)) (Ty.int .i64).dflt=oneT s:=by rw[Int.toNat_natCast];exact q5l (by omega)
     have hE:0≤(s:Int)∧(s:Int)<4096:=by omega
     refine zK0 ?_;refine q1v (t7 xk rfl rfl rfl rfl trivial trivial (by omega) (by omega)) rfl rfl ?_;refine zK0 ?_;refine q9 rfl (fun hd=>?_) (fun hd=>?_)
     ·have hd:decide (List.getD (tbL oneT) (Int.toNat (s:Int)) (Ty.int .i64).dflt>0)=true:=hd;rw[hg,yyu] at hd;obtain rfl:s=0:=by refine yxh fun h=>?_;rw[oneT,if_neg h] at hd;omega
      refine u9 (s':=⟨[(11,vI 1),(10,vS64 0),(9,vI 0),(7,vS64 m),(8,.val (.slice twT) [z]),(32,.lf (.itr 15103)),(0,.lf (.optr 15000 [])),(1,vI 1),(5,.lf (.oarr 15102 [] 2 2))],(15103,.iter 101 clk [st] clk)::HCt cs ms z st clk Lf oneT (cntT m 0),15104⟩) (JW.same ⟨by show some (AV.val (.int .i64) (List.getD (tbL oneT) (Int.toNat ((0:Nat):Int)) (Ty.int .i64).dflt))=some (vI 1);rw[hg];rfl,rfl,rfl,rfl,rfl,rfl,rfl,rfl,rfl,trivial⟩) ?_;have hB:((((0:Nat):Int).toNat ||| (m:Int).toNat:Nat))=m:=by simp
      have hb:List.getD (tbL (cntT m 0)) m 0=0:=q5l (by omega);have hq:List.getD (List.getD [tbL oneT,tbL (cntT m 0)] ((0:Int)+1).toNat (List.replicate 4096 0)) (0 ||| m) 0=0:=by rw[Nat.zero_or];exact hb
      refine q01 xk (Tryz.f35.body.getD .skip) rfl 24 rfl ?_;refine q7 0 xk rfl rfl ?_;refine q7 1 xk rfl rfl ?_;refine q7 2 xk rfl rfl ?_;refine q7 3 xk rfl rfl ?_;refine q7 4 xk rfl rfl ?_;refine q7 5 xk rfl rfl ?_;refine q7 6 xk rfl rfl ?_;refine q7 7 xk rfl rfl ?_;refine q7 8 xk rfl rfl ?_;refine q7 9 xk rfl rfl ?_;refine q7 10 xk rfl rfl ?_;refine q7 11 xk rfl rfl ?_;refine q7 15 xk rfl rfl ?_;refine q7 16 xk rfl rfl ?_;refine q7 17 xk rfl rfl ?_;refine q7 18 xk rfl rfl ?_;refine n3 12 rfl (t7 xk rfl rfl rfl rfl trivial trivial (by omega) (by omega)) ?_;refine z6 13 xk rfl rfl ?_;refine z6 14 xk rfl rfl ?_;refine z6 19 xk rfl rfl ?_;refine z6 20 xk rfl rfl ?_;refine n3 21 rfl (t7 xk rfl rfl rfl rfl trivial trivial (by omega) (by omega)) ?_;refine z6 22 xk rfl rfl ?_;refine j0 23 [] xk ?_ (BrF.one rfl rfl ?_ BrF.nil)
      ·(focus (repeat (first|exact StF.nil|refine r7 rfl rfl rfl ?_|refine x6 rfl (t7 xk rfl rfl rfl rfl trivial trivial (by omega) (by omega)) rfl rfl ?_)))
      refine JL.M0 xk rfl ?_;refine q8 ?_;refine v7 xk ?_ ?_
      ·(focus (repeat (first|exact StF.nil|refine r7 rfl rfl rfl ?_|refine x6 rfl (t7 xk rfl rfl rfl rfl trivial trivial (by omega) (by omega)) rfl rfl ?_)))
      refine zK0 ?_;have hst:List.set (tbL (cntT m 0)) (Int.toNat (((((0:Nat):Int).toNat ||| (m:Int).toNat:Nat)):Int)) (min 1099511627777 (List.getD (tbL (cntT m 0)) (Int.toNat (((((0:Nat):Int).toNat ||| (m:Int).toNat:Nat)):Int)) (Ty.int .i64).dflt+1*(([z].length:Nat):Int)))=tbL (cntT m 1):=by
       rw[hB,Int.toNat_natCast,show List.getD (tbL (cntT m 0)) m (Ty.int .i64).dflt=0 from hb];refine z8e fun k _=>?_;unfold cntT;by_cases h:k=m
       ·rw[if_pos h,if_pos ⟨by omega,h⟩];rfl
       ·rw[if_neg h,if_neg (fun h2=>h h2.2),if_neg (fun h2=>h h2.2)]
      exact⟨1,q29 ⟨rfl,rfl,rfl,rfl,rfl,rfl,rfl,rfl,trivial⟩ (congrArg (List.cons _) (ha (show [tbL oneT,List.set (tbL (cntT m 0)) (Int.toNat (((((0:Nat):Int).toNat ||| (m:Int).toNat:Nat)):Int)) (min 1099511627777 (List.getD (tbL (cntT m 0)) (Int.toNat (((((0:Nat):Int).toNat ||| (m:Int).toNat:Nat)):Int)) (Ty.int .i64).dflt+1*(([z].length:Nat):Int)))]=[tbL oneT,tbL (cntT m 1)] by rw[hst]))),by omega,by omega⟩
     ·have hd:decide (List.getD (tbL oneT) (Int.toNat (s:Int)) (Ty.int .i64).dflt>0)=false:=hd;rw[hg,decide_eq_false_iff_not] at hd;have h0:s≠0:=fun h=>hd (by rw[h];decide);refine zK0 ?_;exact⟨s+1,q29 ⟨by show some (AV.val (.int .u64) ((s:Int)+1))=some (vS64 (s+1));rw[vS64];congr 2,rfl,rfl,rfl,rfl,rfl,rfl,rfl,trivial⟩ (congrArg (List.cons _) (ha (show [tbL oneT,tbL (cntT m s)]=[tbL oneT,tbL (cntT m (s+1))] by rw[q9c (g:=cntT m s) (h:=cntT m (s+1)) fun k _=>z55 (by omega) (by omega)]))),by omega,by omega⟩
    ·replace hc:=zC hc;obtain rfl:s=m+1:=by omega
     refine zK0 ?_;exact⟨true,q29 ⟨rfl,rfl,rfl,rfl,rfl,rfl,rfl,trivial⟩ (congrArg (List.cons _) (ha (show [tbL oneT,tbL (cntT m (m+1))]=[tbL oneT,tbL (cntT m 1)] by rw[q9c (g:=cntT m (m+1)) (h:=cntT m 1) fun k _=>z55 (by omega) (by omega)]))),trivial,by decide⟩
   |true=>show JK _ _ _ ⟨[(9,vI (-1)),(7,vS64 m),(8,.val (.slice twT) [z]),(32,.lf (.itr 15103)),(0,.lf (.optr 15000 [])),(1,vI 1),(5,.lf (.oarr 15102 [] 2 2))],(15103,.iter 101 clk [st] clk)::HCt cs ms z st clk Lf oneT (cntT m 1),15104⟩;refine zK0 ?_;refine q9 rfl (fun hc=>absurd hc (by decide)) (fun _=>?_);refine zK0 ?_;exact⟨true,JW.same ⟨rfl,rfl,rfl,rfl,trivial⟩,trivial,by decide⟩
  |true=>
   show JK _ _ _ ⟨[(32,.lf (.itr 15103)),(0,.lf (.optr 15000 [])),(1,vI 1),(5,.lf (.oarr 15102 [] 2 2))],(15103,.iter 101 clk [st] clk)::HCt cs ms z st clk Lf oneT (cntT m 1),15104⟩;refine zK0 ?_;refine q7j rfl rfl rfl hw.lt (yyl _) rfl (fun hall=>?_) (fun e he hj=>absurd (by rw[yyp.1 he];exact yyh) hj);refine zK0 ?_;refine q9 rfl (fun hc=>absurd hc (by decide)) (fun _=>?_);refine zK2 ?_;have hb:List.getD (tbL (cntT m 1)) (Int.toNat (m:Int)) (Ty.int .i64).dflt=1:=by rw[Int.toNat_natCast,q5l (by omega),cntT,if_pos ⟨by omega,rfl⟩]
   refine q01 xk (Tryz.f35.body.getD .skip) rfl 8 rfl ?_;refine q7 0 xk rfl rfl ?_;refine q7 1 xk rfl rfl ?_;refine q7 2 xk rfl rfl ?_;refine n3 4 rfl (t7 xk rfl rfl rfl rfl trivial trivial (by omega) (by omega)) ?_;refine j0 3 [] xk ?_ (BrF.one rfl rfl ?_ BrF.nil)
   ·(focus (repeat (first|exact StF.nil|refine r7 rfl rfl rfl ?_|refine x6 rfl (t7 xk rfl rfl rfl rfl trivial trivial (by omega) (by omega)) rfl rfl ?_)))
   refine q15 (q3n 83 rfl rfl) ?_;refine q81 rfl c37 rfl trivial rfl ?_;refine q8 ?_;refine z6 5 xk rfl rfl ?_;refine z6 6 xk rfl rfl ?_;refine z6 7 xk rfl rfl ?_;refine v7 xk ?_ ?_
   ·(focus (repeat (first|exact StF.nil|refine r7 rfl rfl rfl ?_|refine x6 rfl (t7 xk rfl rfl rfl rfl trivial trivial (by omega) (by omega)) rfl rfl ?_)))
   refine zK0 ?_;refine n8 rfl rfl rfl rfl ?_;show Kc (.val (.int .i64) (List.getD (tbL (cntT m 1)) (Int.toNat (m:Int)) (Ty.int .i64).dflt)) Lf ((15103,.iter 101 clk [st] clk)::(15102,.cell wyT (vWy oneT (cntT m 1)))::HB cs ms z st clk []) 15104;rw[hb];exact k
set_option maxRecDepth 20000 in
set_option maxHeartbeats 2000000 in
def fn12(hs:okSt cs ms)(hz:rwAll cs ms=[z])(hall:mkM cs ms z=2 ^ ms.length-1):Ox.Fn Tryz.prog 12 (.acons (.val shT (mkS cs ms)) .anil) (·=.tup (.acons (.val (.int .i64) 1) (.acons (vI 0) .anil))):=by
 refine zI Tryz.func12 rfl Tryz.call12 rfl fun E M0 up=>?_;have hd:2 ^ ms.length≤2 ^ 12:=yxg (by decide) hs.m12;have he:2 ^ 1≤2 ^ ms.length:=yxg (by decide) hs.m1;have hf:List.getD (tbL (fewT (2 ^ ms.length-1) 1)) (2 ^ ms.length-1) 0=1:=by rw[q5l (by omega),fewT,if_neg (by omega),if_pos ⟨by omega,rfl⟩]
 have c37:=fn37 (cs:=cs) (ms:=ms) hs.m12;refine zK0 ?_;refine q70 rfl (fo29 hs hz hall) (yyd rfl) (j2k (by decide)) rfl trivial (fun r H' nx' hQ=>?_);obtain⟨rfl,_,rfl,st,clk,ha,rfl⟩:=hQ;refine zK0 ?_;refine q9 rfl (fun h=>absurd h (by decide)) (fun _=>?_);refine zK2 ?_;have hg:bdH 15100 (HB cs ms z st clk []):=⟨ltk rfl,trivial,ltk rfl,ltk rfl,trivial⟩;refine u9 (s':=⟨[(4,.lf (.optr 15000 []))],HB cs ms z st clk [],15100⟩) (JW.low ⟨rfl,trivial⟩ (fun l q hq=>by
  rcases yyk.1 (w5 hq) with h|h
  ·injection h with h1 h2;subst h1 h2;rfl
  rcases yyk.1 h with h|h
  ·injection h with h1 h2;subst h1 h2;rfl
  cases h) ⟨ltk rfl,trivial⟩ hg) ?_
 refine g9 xk (Tryz.f12.body.getD .skip) ⟨[(6,.val (.int .i64) 1)],[],0⟩ rfl 10 rfl ?_ ?_
 ·refine q7 0 xk rfl rfl ?_;refine q7 1 xk rfl rfl ?_;refine q7 3 xk rfl rfl ?_;refine j0 2 [] xk StF.nil (BrF.one rfl rfl ?_ BrF.nil);refine z6l (s:=⟨_,_,_⟩) [15,18] rfl rfl rfl rfl trivial Tryz.func36 rfl Tryz.call36 (yyd rfl) (j9 rfl) fun M3 up3=>JK.start (cdt (fn:=Tryz.f36) rfl ?_);refine few_in (Lf:=[(15,.lf (.optr 15000 [])),(18,.lf (.optr 15000 []))]) (K:=[]) ha hs.m12 hs.m1 hall ⟨ltk rfl,ltk rfl,trivial⟩ trivial rfl ?_;refine q8 ?_;refine q7 5 xk rfl rfl ?_;refine j0 4 [] xk StF.nil (BrF.one rfl rfl ?_ BrF.nil);refine q15 (q3n 18 rfl rfl) ?_;refine q81 rfl c37 rfl trivial rfl ?_;refine q8 ?_;have hb:(0:Int)≤((2 ^ ms.length-1:Nat):Int)∧((2 ^ ms.length-1:Nat):Int)<4096:=by omega
  have hh:List.getD (tbL (fewT (2 ^ ms.length-1) 1)) (Int.toNat ((2 ^ ms.length-1:Nat):Int)) (Ty.int .i64).dflt=1:=by rw[Int.toNat_natCast];exact hf
  clear hf hd he c37;refine q7 6 xk rfl rfl ?_;refine z6 7 xk rfl rfl ?_;refine j0 8 [] xk (by(repeat (first|exact StF.nil|refine r7 rfl rfl rfl ?_))) (BrF.one rfl rfl ?_ BrF.nil);refine z6l (s:=⟨_,_,_⟩) [] rfl rfl rfl rfl trivial Tryz.func35 rfl Tryz.call35 (yyd rfl) (j9 rfl) fun M4 up4=>JK.start (cdt (fn:=Tryz.f35) rfl ?_);refine u9 (s':=⟨[(0,.lf (.optr 15000 [])),(1,vI 1)],(15101,.fr 0 [])::HB cs ms z st clk [],15102⟩) (JW.same ⟨rfl,by show some (AV.val (.int .i64) (List.getD (tbL (fewT (2 ^ ms.length-1) 1)) (Int.toNat ((2 ^ ms.length-1:Nat):Int)) (Ty.int .i64).dflt))=some (vI 1);rw[hh],trivial⟩) ?_;refine count_in (Lf:=[]) ha hs.m12 hs.m1 hall trivial ?_;refine q8 ?_;refine q7 9 xk rfl rfl ?_;refine v7 xk StF.nil ?_;exact JW.low ⟨rfl,trivial⟩ (fun l o h=>by cases h) ⟨trivial,trivial⟩ trivial
 refine zK0 ?_;refine q9 rfl (fun h=>absurd h (by decide)) (fun _=>?_);refine zK0 ?_;refine zR rfl trivial ?_;rfl
end Go.Proofs.YtjecebccchhmhaaGreatDoor.Cb
namespace Go.Proofs.YtjecebccchhmhaaGreatDoor.Cb
open Go Go.RowKit Ox Ox.Gl
attribute [local irreducible] JC JL JK JW
abbrev rowsV(cs ms:List TwD):AV:=.fn 58 .anil (.acons (vBb cs ms) .anil)
set_option maxRecDepth 20000 in
def fn28(cs ms:List TwD):Ox.Fn Tryz.prog 28 (.acons (vBd cs ms) .anil) (·=rowsV cs ms):=by
 refine zI Tryz.func28 rfl Tryz.call28 rfl fun E M0 up=>?_;refine zK0 ?_;refine z1a ?_
 (refine j27 [0] [1] rfl ?_)
 refine zK0 ?_;refine zR rfl trivial ?_;rfl
abbrev LO10:List (Nat×AV):=[(3,.lf (.optr 1 [])),(8,.lf (.optr 2 []))]
def KQ(a b:Code)(n:Int)(xs:List Int):List (Nat×HO):=[(5,.fr 0 [(42,.lf (.yld 4)),(3,.lf (.optr 1 [])),(8,.lf (.optr 2 []))]),(4,.loop .ready none #[26] a b 42 LO10),(2,.cell (.slice (.int .i64)) (.lf (.osl 3))),(3,.sl 2 (.int .i64) xs),(1,.cell (.int .i64) (vI n))]
set_option maxRecDepth 20000 in
set_option maxHeartbeats 2000000 in
def fn10{cs ms:List TwD}(hs:okSt cs ms){z:TwD}(hz:rwAll cs ms=[z])(hc:0≤z.1∧z.1<cs.length):Ox.Fn Tryz.prog 10 (.acons (.val shT (mkS cs ms)) (.acons (vI z.1) .anil)) (·=.tup (.acons (vL [z.2.1]) (.acons (vI 0) .anil))):=by
 refine zI Tryz.func10 rfl Tryz.call10 rfl fun E M0 up=>?_;have c24:=fn24 hs;have c25:=fn25 cs ms z.1;rw[decide_eq_true hc] at c25;have c28:=fn28 cs ms
 (repeat (first|refine zs rfl ?_|refine ze rfl (c24) rfl ?_))
 refine q9 rfl (fun h=>absurd h (by decide)) (fun _=>?_)
 (repeat (first|refine zs rfl ?_|refine zc rfl (c25) rfl rfl ?_))
 refine q9 rfl (fun h=>absurd h (by decide)) (fun _=>?_)
 (repeat (first|refine zs rfl ?_|refine ze rfl (c28) rfl ?_))
 refine z2z 2 2 (.int .i64) rfl ?_;refine q82 [3,8] rfl rfl rfl Tryz.func58 rfl Tryz.call58 (yyd rfl) trivial fun M3 up3 a1 b1 hb hd=>?_
 (repeat (first|refine zs rfl ?_|refine q66 brd rfl rfl trivial ?_))
 refine u9 (s':=⟨[(0,.lf (.yld 4)),(1,vBb cs ms),(13,vI cs.length),(14,vI 0)],KQ a1 b1 z.1 [],15010⟩) (JW.low ⟨rfl,rfl,rfl,rfl,trivial⟩ (fun l q hq=>by
  rcases yyk.1 (w5 hq) with h|h
  ·injection h with h1 h2;subst h1 h2;rfl
  rcases yyk.1 h with h|h
  ·injection h with h1 h2;subst h1 h2;rfl
  rcases yyk.1 h with h|h
  ·injection h with h1 h2;subst h1 h2;rfl
  rcases yyk.1 h with h|h
  ·injection h with h1 h2;subst h1 h2;rfl
  rcases yyk.1 h with h|h
  ·injection h with h1 h2;subst h1 h2;rfl
  cases h) ⟨ltk rfl,trivial,trivial,trivial,trivial⟩ ⟨ltk rfl,y6 ⟨ltk rfl,ltk rfl,ltk rfl,trivial⟩,ltk rfl,s7 ⟨ltk rfl,ltk rfl,trivial⟩,ltk rfl,ltk rfl,ltk rfl,trivial,ltk rfl,trivial,trivial⟩) ?_
 refine z3m (Mx:=M3) (nX:=42) (rdX:=none) hs (fun pre=>KQ a1 b1 z.1 (pre.map fun x=>x.2.1)) (ltk rfl) (fun pre=>⟨ltk rfl,y6 ⟨ltk rfl,ltk rfl,ltk rfl,trivial⟩,ltk rfl,s7 ⟨ltk rfl,ltk rfl,trivial⟩,ltk rfl,ltk rfl,ltk rfl,trivial,ltk rfl,trivial,trivial⟩) ?_ ?_
 ·intro pre y post ha;obtain⟨rfl,rfl⟩:pre=[]∧y=z:=by
   rw[hz] at ha;cases pre with
   |nil=>exact⟨rfl,(List.cons.inj ha).1.symm⟩
   |cons a t=>have h1:=congrArg List.length ha;simp at h1
  show YO _ _ _ _ (KQ a1 b1 y.1 []) 15010 true (KQ a1 b1 y.1 [y.2.1]) 15010;refine YO.intro 0 42 (ps:=#[26]) (assign:=a1) (body:=b1) (nO:=42) (LO:=LO10) (L0:=[(26,vTw y),(3,.lf (.optr 1 [])),(8,.lf (.optr 2 []))]) rfl rfl rfl ⟨5,_,rfl,rfl⟩ ⟨5,_,rfl,rfl⟩ fun M4 M5 up5 bl he=>JK.start (v9 hb ?_);refine zK0 ?_;refine k7 (q0f rfl rfl rfl rfl (JK.start (v9 hd ?_)));refine zK0 ?_;refine q9 rfl (fun _=>?_) (fun h=>absurd (show(y.1==y.1)=false from h) (by simp));refine zK2 ?_;refine q01 xk (Tryz.f10.body.getD .skip) rfl 11 rfl ?_
  (refine q7 6 xk rfl rfl (z6 0 xk rfl rfl (z6 1 xk rfl rfl (z6 2 xk rfl rfl (z6 3 xk rfl rfl (z6 4 xk rfl rfl (z6 5 xk rfl rfl (z6 7 xk rfl rfl (zU 8 xk rfl rfl ?_))))))));(refine q19 xk rfl rfl ?_);refine q8 ?_;refine zU 9 xk rfl rfl ?_;refine zK9 ?_;refine q8 ?_;refine zU 10 xk rfl rfl ?_;refine zK3 ?_;refine q8 ?_;refine v7 xk StF.nil ?_;((refine zK0 ?_;refine k7 (bodyQ.of rfl rfl rfl rfl rfl rfl ⟨rfl,?_⟩);show JW _ ⟨[],KQ a1 b1 y.1 [y.2.1],15010⟩ _;exact zJ)))
 ·intro L;refine k7 (rngQ.of (.inr rfl) rfl rfl rfl rfl rfl rfl rfl (q18 ?_));rw[hz];show JK _ _ _ ⟨_,[(2,.cell (.slice (.int .i64)) (.lf (.osl 3))),(3,.sl 2 (.int .i64) [z.2.1]),(1,.cell (.int .i64) (vI z.1))],15010⟩
  (iterate 4 (first|refine zs rfl ?_|refine JK.fin ?_))
  refine q84 (H':=[]) (L':=[]) (nx':=0) 3 41 rfl rfl trivial (fun l o h=>by cases h) rfl trivial trivial ?_;refine zK0 ?_;refine zR rfl trivial ?_;rfl
end Go.Proofs.YtjecebccchhmhaaGreatDoor.Cb
namespace Ox
open Go Go.RowKit
section
variable {X:Ctx}{s:S}{M:Mem}{ρ:Env}{a:Act}{w:World}{QA:Exit→S→Prop}{all l:List Oper}{md:Bool}{o:Oper}
def z2k{args r:AV}(h:callA X.T o.op s=some (cs,f,args))(hf:Fn X.P f args (·=r))(hr:∀ M ρ v,r.rv M ρ v↔v=V)(hc:allP cs)(h1:SAT X M ρ s w)(h2:REG X M ρ s a){w1:World}(hw:Below w.heap.size w w1) :
  ∃ az,(execOp a.eval o).run X.P w1=.ok (.enter f az) w1∧Calls X.P f az w1 (fun e w'=>e=.returned V∧Below w.heap.size w w'):=by
 obtain⟨hb,vs,hd,ha⟩:=f7 h1 (q5r h1) h2 h hc;refine⟨vs.toArray,by rw[ha,hf.call],(hf.run _ ρ w1 vs (q5q hw) hd hb).mono ?_⟩;rintro e w' ⟨v,r',M',rfl,rfl,_,hv,he,_⟩;exact⟨by rw[(hr _ _ _).1 hv],hw.trans (he.mono hw.size)⟩
def j2z{g:Bool}{args r:AV}(hg:gOf all s.L o.guard=some g)(h:callA X.T o.op s=some (cs,f,args))(hf:g=true→Fn X.P f args (·=r))(hr:∀ M ρ v,r.rv M ρ v↔v=V)(ha:r.bd 0)(hd:dstOk X.n o.dst)(hc:g=true→allP cs)
  (k:JL X md all QA l (putS o.dst (.gd g r) s)):JL X md all QA (o::l) s:=by
 cases md
 ·intro M ρ a w0 h1 h2;have hw:=u7 hg h2;simp only[wpQuiet,hw];cases g with
  |true=>simp only[if_true];refine⟨V,fun w hw=>?_,k M ρ _ w0 (z8 h1) (h2.putO hd.spec (by exact fun _=>j3 (yyw _) ha) (by simp only[AV.rv];exact⟨fun _=>(hr _ _ _).2 rfl,fun h=>(by cases h)⟩))⟩;obtain⟨az,e1,e2⟩:=z2k h (hf rfl) hr (hc rfl) h1 h2 hw;unfold Oper.quietAt;rw[e1];exact⟨rfl,e2⟩
  |false=>simp only[yys,if_false];exact k M ρ _ w0 (z8 h1) (h2.putO hd.spec (by exact fun h=>(by cases h)) (by simp[AV.rv]))
 ·intro M ρ a w h1 h2;have hw:=u7 hg h2;cases g with
  |true=>obtain⟨az,e1,e2⟩:=z2k h (hf rfl) hr (hc rfl) h1 h2 (Below.refl w.heap.size w);refine z9 hw (x8 (q00 h) e1 e2 ?_);rintro e w' ⟨rfl,hb⟩;exact⟨_,rfl,k M ρ _ w' (z8 (h1.later hb)) (h2.putO hd.spec (by exact fun _=>j3 (yyw _) ha) (by simp only[AV.rv];exact⟨fun _=>(hr _ _ _).2 rfl,fun h=>(by cases h)⟩))⟩
  |false=>refine o7 hw ?_;exact k M ρ _ w (z8 h1) (h2.putO hd.spec (by exact fun h=>(by cases h)) (by simp[AV.rv]))
end
section
variable {X:Ctx}{QA:Exit→S→Prop}{all l:List Oper}{md:Bool}{op:Op}{L:List (Nat×AV)}{H:List (Nat×HO)}{nx d:Nat}{cs:List Prop}{ty:TypeId}{ps:String}{af:Array Edge}{g:Bool}{gg:Nat×Bool}{rr:List Fr}{f:FuncId}{args r:AV}
def JK.fcg(hg:gOf all L (some gg)=some g)(h:callA X.T op ⟨L,H,nx⟩=some (cs,f,args))(hf:g=true→Fn X.P f args (·=r))(hr:∀ M ρ v,r.rv M ρ v↔v=V)(ha:r.bd 0)(hd:ltB d X.n=true)(hc:g=true→allP cs)(k:JK X (.ops md all l::rr) QA ⟨(d,.gd g r)::L,H,nx⟩) :
  JK X (.ops md all (⟨some d,op,ty,ps,af,some gg⟩::l)::rr) QA ⟨L,H,nx⟩:=j2z (o:=⟨some d,op,ty,ps,af,some gg⟩) (s:=⟨L,H,nx⟩) hg h hf hr ha (j9 hd) hc k
end
section
variable {X:Ctx}{s:S}{QA:Exit→S→Prop}{all l:List Oper}{o:Oper}
end
def fix_two(r:Int×Int×Unit):∀ M ρ v,(AV.val (.cons (.int .i64) (.cons (.int .i64) .nil)) r).rv M ρ v↔v=.agg #[.int .i64 r.1,.int .i64 r.2.1]:=fun M ρ v=>by
 simp only[AV.rv,Rep];constructor
 ·rintro⟨cs,⟨c1,c2,rfl,rfl,c3,c4,rfl,rfl,rfl⟩,rfl⟩;rfl
 ·rintro rfl;exact⟨_,⟨_,_,rfl,rfl,_,_,rfl,rfl,rfl⟩,rfl⟩
end Ox
namespace Go.Proofs.YtjecebccchhmhaaGreatDoor.Dp
open Go Go.RowKit Ox Ox.Gl Ox.Rn
attribute [local irreducible] JC JL JK JW
variable {gs:List Gt}
def eqRw:EqT Tryz.prog rgT 47:=.of (by decide +kernel)
def aftF(id:Nat):Code→Option Code
 |.seq (.seq _ (.block j _)) b=>if j=id then some b else aftF id b
 |.seq _ b=>aftF id b
 |_=>none
noncomputable abbrev restC:Code:=(aftF 0 (Tryz.f3.body.getD .skip)).getD .skip
def aftE{X:Ctx}{c:Code}{Q:Exit→S→Prop}{s:S}(hb:aftF 0 (Tryz.f3.body.getD .skip)=some c)(k:JK X [.code c] Q s):JK X [.code restC] Q s:=by unfold restC;rw[hb];exact k
abbrev HR(s:Int)(n:Nat)(S:List SpD)(D:List DrD)(R:List RgD):List (Nat×HO):=[(3,.cell Cb.shT (.val Cb.shT (Cb.mkS [(s,(n:Int),())] R))),(1,.cell baT (vBa S D)),(0,.cell rgT (.val rgT (s,(n:Int),())))]
set_option maxRecDepth 20000 in
set_option maxHeartbeats 4000000 in
def law_rest(hg:Cb.g64∈gs){f s lo hi:Int}{n:Nat}(h:okB f s lo hi n){E:World}{M0:Mem}{QA:Exit→S→Prop}(hz:LaidW gs E)(hw:FnZ (Laid gs) Tryz.prog 17 (.bool true))
  (kend:QA .ret ⟨[(10,vB true),(297,vB true),(295,vB true),(296,vB true)],[],0⟩) :
  JK ⟨Tryz.prog,tys,ets,mts,E,M0,Tryz.f3.ntmps,none,up,0⟩ [.code restC] QA ⟨LS f lo hi,HS s n (spS f s n) (drS lo hi n) (Cb.msL f s n),7⟩:=by
 have hC:Cb.okC f s n:=⟨h.f1,h.f2,h.s1,h.s2,h.n2,h.n6⟩;have hy:=h.n2;have hH:=h.n6;have hst:=Cb.okSt_C hC;have hzz:=Cb.rwAll_C hC;have hm:=Cb.mkM_0 hC;have hp:2 ^ 2≤2 ^ n:=yxg (by decide) hy;have he:=Cb.msL_len f s n;have c8:=Cb.fn8 hg hst (0,f,()) ⟨Int.le_refl _,by show(0:Int)<1;decide⟩ (by rw[hm];omega);rw[hm] at c8;have hT:=Cb.twI_len n (by omega);have c10:=Cb.fn10 hst hzz ⟨Int.le_refl _,by show(0:Int)<1;decide⟩;have c11:=Cb.fn11 hst hzz (by rw[hm,he]);have c12:=Cb.fn12 hst hzz (by rw[hm,he]);have c13:=Cb.fn13 hst.mks (Cb.bdM_C hC) (by omega) (by omega);rw[Cb.spL_C hC] at c13;unfold Cb.csL at c8 c10 c11 c12;generalize twI (2 ^ n-1)=T at c8 hT;refine aftE rfl ?_;dsimp only at c10 c11 c12 c13
 (refine z20 [4,5,6] [10,11,12,13,14,15,16] rfl ?_)
 refine z1c 1 rfl rfl ?_;refine z1c 3 rfl rfl ?_;have k14:∀ k:Nat,1≤k→k<n→Ox.Fn Tryz.prog 14 (.acons (vBa (spS f s n) (drS lo hi n)) (.acons (vI ((k:Int)-1)) (.acons (vI (k:Int)) .anil))) (·=.tup (.acons (vI (wantI s lo hi)) (.acons (vI 0) .anil))):=fun k hj hJ=>by have:=fn14 h (p:=(k:Int)-1) (q:=(k:Int)) (by omega) (by omega) (by omega);rwa[kd_nb (by omega)] at this
 have k15:=fn15 h (p:=0) (q:=(n:Int)-1) (by omega) (by omega) (by omega);have k16:=fn16 h (p:=0) (q:=(n:Int)-1) (by omega) (by omega) (by omega);have hh:(Cb.msL f s n).length≤100:=by omega
 have hA:=q09 f s n;have hD:=z0x lo hi n;generalize Cb.msL f s n=R at c8 c10 c11 c12 c13 he hh ⊢;generalize spS f s n=S at k14 k15 k16 hA ⊢;generalize drS lo hi n=D at k14 k15 k16 hD ⊢;clear hm hzz hst hC hp;refine zK2 ?_;have c9:=fn9 0 f;refine g9 xk (Tryz.f3.body.getD .skip) ⟨LS f lo hi++[(19,vL T),(20,vI 0)],HR s n S D R,7⟩ rfl 9 rfl ?_ ?_
 ·(refine q7 1 xk rfl rfl (z6 0 xk rfl rfl (zU 2 xk rfl rfl ?_));refine zK14 ?_;refine q8 ?_;refine zU 3 xk rfl rfl ?_;refine zK14 ?_;refine q8 ?_;refine q7 4 xk rfl rfl (q7 5 xk rfl rfl (q7 6 xk rfl rfl (q7 7 xk rfl rfl (q7 8 xk rfl rfl ?_))));refine v7 xk StF.nil ?_;(exact zJ))
 (repeat (first|refine zs rfl ?_|refine zg rfl rfl rfl ?_|refine zd ?_|refine ze rfl (c10) rfl ?_|refine ze rfl (c11) rfl ?_|refine zc rfl (c12) rfl rfl ?_|refine ze rfl (c13) rfl ?_))
 refine JK.fcg rfl rfl (fun _=>c9) (fix_two _) trivial rfl (fun _=>by simp[allP,wantB];omega) ?_;have e2:rgT.eqB (0,f,()) (0,f,())=true:=y7.2 rfl;have hK:=h.s1;have hL:=h.s2;have hE:=h.l1;have hF:=h.l2;have hM:=h.l3;have hN:=z6y (d:=s) (b:=50) (by omega) (by omega)
 (repeat (first|refine zu rfl ?_|refine zg rfl rfl rfl ?_|refine zneg eqRw rfl rfl rfl rfl ?_))
 refine q9 rfl (fun hc=>?_) (fun _=>?_)
 ·exfalso;simp[hT,e2] at hc
 clear c8 c9 c10 c11 c12 c13 e2 hT;refine u9 (s':=⟨LS f lo hi,HR s n S D R,7⟩) (JW.same ⟨rfl,rfl,rfl,rfl,rfl,rfl,rfl,trivial⟩) ?_;refine zK10 ?_;refine JK.cut (σ:=Unit) (fun _=>⟨LS f lo hi++[(29,vI (if s*s≤4*hi then 1 else 0))],HR s n S D R,7⟩) (fun _=>True) ?_ (fun _ _=>?_)
 ·refine zK0 ?_;refine q9 rfl (fun hc=>?_) (fun hc=>?_)
  ·have hc:s*s≤4*hi:=of_decide_eq_true hc;rw[if_pos hc];refine zK0 ?_;exact⟨(),JW.same ⟨rfl,rfl,rfl,rfl,rfl,rfl,rfl,rfl,trivial⟩,trivial⟩
  ·have hc:¬ s*s≤4*hi:=of_decide_eq_false hc;rw[if_neg hc];refine zK0 ?_;exact⟨(),JW.same ⟨rfl,rfl,rfl,rfl,rfl,rfl,rfl,rfl,trivial⟩,trivial⟩
 refine zK10 ?_;refine JK.cut (σ:=Unit) (fun _=>⟨LS f lo hi++[(29,vI (wantI s lo hi))],HR s n S D R,7⟩) (fun _=>True) ?_ (fun _ _=>?_)
 ·unfold wantI;generalize (if s*s≤4*hi then(1:Int) else 0)=w1;refine zK0 ?_;refine q9 rfl (fun hc=>?_) (fun hc=>?_)
  ·have hc:s*s≤4*lo:=of_decide_eq_true hc;rw[if_pos hc];refine zK0 ?_;exact⟨(),JW.same ⟨rfl,rfl,rfl,rfl,rfl,rfl,rfl,rfl,trivial⟩,trivial⟩
  ·have hc:¬ s*s≤4*lo:=of_decide_eq_false hc;rw[if_neg hc];refine zK0 ?_;exact⟨(),JW.same ⟨rfl,rfl,rfl,rfl,rfl,rfl,rfl,rfl,trivial⟩,trivial⟩
 have ha:=want_hi (s:=s) h.l2;have hb:=want_lo (s:=s) h.l2;have hG:wantI s lo hi=0∨wantI s lo hi=1∨wantI s lo hi=2:=by
  unfold wantI;split
  ·exact .inr (.inr rfl)
  ·split
   ·exact .inr (.inl rfl)
   ·exact .inl rfl
 have hu:=z43 (sure:=true) h;have hv:=z43 (sure:=false) h;rw[← hu] at ha;rw[← hv] at hb;generalize wantI s lo hi=w at k14 ha hb hG ⊢;refine zK0 ?_;refine JK.loop (fun k:Nat=>⟨LS f lo hi++[(29,vI w),(30,vI (k:Int))],HR s n S D R,7⟩) (fun k=>1≤k∧k≤n) (fun k=>n-k) 1 ⟨yyl _,by omega⟩ (by exact zJ) fun k ⟨hj,hk⟩=>?_;refine zK0 ?_;refine q9 rfl (fun hd=>?_) (fun hd=>?_)
 ·replace hd:=zC hd;have c14:=k14 k hj (by omega)
  (repeat (first|refine zs rfl ?_|refine zg rfl rfl rfl ?_|refine zc rfl (c14) rfl rfl ?_))
  refine q9 rfl (fun hc=>?_) (fun _=>?_)
  ·exfalso;have hc:(bif (0:Int) != 0 then true else w != w)=true:=hc;simp at hc
  refine zK0 ?_;exact⟨k+1,by exact zJ,⟨by omega,by omega⟩,by omega⟩
 ·clear k14 hu hv;have k1:=k15 true;have k2:=k15 false;have k3:=k16 true;have k4:=k16 false;rw[← ha] at k1 k3;rw[← hb] at k2 k4;refine zK0 ?_;refine JK.cl rfl k1 rfl (fun r hr=>?_) trivial;obtain⟨x1,e1,rfl,g1,d1⟩:=hr;refine zK0 ?_;refine JK.cl rfl k2 rfl (fun r hr=>?_) trivial;obtain⟨x2,e2,rfl,g2,d2⟩:=hr;refine zK0 ?_;refine JK.cl rfl k3 rfl (fun r hr=>?_) trivial;obtain⟨x3,e3,rfl,g3,d3⟩:=hr;refine zK0 ?_;refine JK.cl rfl k4 rfl (fun r hr=>?_) trivial;obtain⟨x4,e4,rfl,g4,d4⟩:=hr;refine zK0 ?_;have hB:(bif bif bif (e1==0)==(w==2) then(e2==0)==(w != 0) else false then(e3==0) != (e1==0) else false then(e4==0) != (e2==0) else false)=true:=by
   clear k1 k2 k3 k4 ha hb;have b1:(e1==0)=(w==2):=by rw[yxb];simpa using g1
   have b2:(e2==0)=(w != 0):=by rw[yxb];simpa using g2
   have b3:(e3==0)=!(w==2):=by rw[yxb];simpa using g3
   have b4:(e4==0)=!(w != 0):=by rw[yxb];simpa using g4
   rw[b1,b2,b3,b4];cases (w==2)<;>cases (w != 0)<;>rfl
  generalize (bif bif bif (e1==0)==(w==2) then(e2==0)==(w != 0) else false then(e3==0) != (e1==0) else false then(e4==0) != (e2==0) else false)=B at hB ⊢;subst hB;refine z7w rfl rfl rfl hw hz rfl trivial ?_;refine x7 (s':=⟨[(295,vB true),(296,vB true)],[],0⟩) (JW.low ⟨rfl,rfl,trivial⟩ (q3q trivial) ⟨trivial,trivial,trivial⟩ trivial) ?_;refine zK0 ?_;exact kend
abbrev v8(x:Int):AV:=.val (.int .u8) x
abbrev v16(x:Int):AV:=.val (.int .u16) x
set_option maxRecDepth 20000 in
set_option maxHeartbeats 4000000 in
def fn3(hg:Cb.g64∈gs)(hb:FnZ (Laid gs) Tryz.prog 17 (.bool true))(sp th at_ sr mo:Int)(b1:0≤sp∧sp≤255)(b2:0≤th∧th≤255)(b3:0≤at_∧at_≤255)(b4:0≤sr∧sr≤65535)(b5:0≤mo∧mo≤65535) :
  FnE gs Tryz.prog 3 (.acons (v8 sp) (.acons (v8 th) (.acons (v8 at_) (.acons (v16 sr) (.acons (v16 mo) .anil))))) (·=vB true):=by
 refine Ox.FnX.intro xok Tryz.func3 rfl Tryz.call3 (yyd rfl) (fun E M0 up hz=>?_);refine JK.start ?_;obtain⟨n,hn⟩:∃ n:Nat,2+th % 5=(n:Int):=⟨(2+th % 5).toNat,by omega⟩;have c5:=fn5 (1+sp % 50) (2+th % 5)
 (repeat (first|refine zs rfl ?_|refine ze rfl (c5) rfl ?_))
 rw[hn];have ha:okB (1+at_ % 100) (1+sp % 50) (1+sr % 2000) (min 10000 (1+sr % 2000+mo % 2000)) n:=⟨by omega,by omega,by omega,by omega,by omega,by omega,by omega,by omega,by omega⟩;generalize 1+sp % 50=s at ha ⊢;generalize 1+at_ % 100=f at ha ⊢;generalize 1+sr % 2000=lo at ha ⊢;generalize min 10000 (lo+mo % 2000)=hi at ha ⊢;clear hn c5 b1 b2 b3 b4 b5
 (refine z20 [2] [10,11,12,13,14,15,16,17] rfl ?_)
 refine q83 1 [true,false] 35 spT rfl rfl ?_;refine q83 1 [true,true,false] 40 drT rfl rfl ?_;refine q83 3 [true,false] 38 rgT rfl rfl ?_;refine u9 (s':=⟨[(10,vB false),(11,.lf (.optr 0 [])),(12,vI f),(13,vI lo),(14,vI hi),(15,.lf (.optr 1 [])),(16,.lf (.optr 3 [])),(17,vI 0)],HS s n [] [] [],7⟩) (JW.same ⟨rfl,rfl,rfl,rfl,rfl,rfl,rfl,rfl,trivial⟩) ?_;refine law_bath ha ?_;refine law_rest hg ha hz hb ?_;exact⟨.inl rfl,_,_,rfl,trivial,rfl⟩
end Go.Proofs.YtjecebccchhmhaaGreatDoor.Dp
namespace Go.Proofs.YtjecebccchhmhaaGreatDoor
open Go Go.RowKit Ox Ox.Rn
attribute [local irreducible] JC JL JK JW
variable {gs:List Gt}
def works03(h1:FnZ (Laid gs) Tryz.prog 45 (.bool true))(h2:FnZ (Laid gs) Tryz.prog 46 (.bool true))(h3:FnZ (Laid gs) Tryz.prog 47 (.bool true)):FnZ (Laid gs) Tryz.prog 17 (.bool true):=by refine FnL.toZ (r:=vB true) rfl (Ox.FnX.intro xok Tryz.func17 rfl Tryz.call17 (yyd rfl) (fun E M0 up hz=>?_));refine JK.start ?_;refine zK0 ?_;refine JK.callZ rfl h1 hz rfl trivial ?_;refine zK0 ?_;refine z21 rfl rfl rfl h2 hz rfl trivial ?_;refine zK0 ?_;refine z21 rfl rfl rfl h3 hz rfl trivial ?_;refine zK0 ?_;refine zR rfl trivial ?_;rfl
end Go.Proofs.YtjecebccchhmhaaGreatDoor
