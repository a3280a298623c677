/- Texts of the proof of the statement that the last text proves. -/
import Derived.Test.YtcijjbccigbflaaGreatDoorPrg
set_option linter.all false
set_option maxHeartbeats 2000000
variable{f:Go.FuncId}{k:Nat}{ty:Go.TypeId}
namespace Go.Proofs.YtcijjbccigbflaaGreatDoor
open Go Go.RowKit Ox Ox.Gl Ox.Rn Ga
attribute [local irreducible] JC JL JK JW
variable {gs:List Gt}
abbrev LM(l:List Sh.Sh):List (Nat×AV):=[(0,Pr.vD l),(2,vB false),(3,.lf (.optr 0 [])),(4,.lf (.osl 1))]
abbrev HM(A:List Int)(C:List CoD)(ps:List (List Int)):List (Nat×HO):=[(0,.cell glT (.mix (vI 1) (.mix (.lf (.osl 2)) (.mix (.lf (.osl 3)) (.val .nil ()))))),(1,.sl 3 (.int .i64) A),(2,.sl 34 coT C),(3,.sl 38 prT ps)]
abbrev LX(l:List Sh.Sh)(A:List Int):List (Nat×AV):=[(0,Pr.vD l),(2,vB false),(3,.lf (.optr 0 [])),(4,vL A)]
set_option maxRecDepth 20000 in
set_option maxHeartbeats 4000000 in
def fn3(hg:g64∈gs)(h5:FnZ (Laid gs) Tryz.prog 5 (.bool true))(l:List Sh.Sh):FnE gs Tryz.prog 3 (.acons (Pr.vD l) .anil) (·=vB true):=by
 refine Ox.FnX.intro xok Tryz.func3 rfl Tryz.call3 (yyc rfl) (fun E M0 up hz=>?_);refine JK.start ?_;refine JK.lenOf 0 rfl fun hF=>?_;replace hF:l.length≤9223372036854775807:=hF.1;have c4:=Pr.fn4 l
 (repeat (first|refine zs rfl ?_|refine zg rfl rfl rfl ?_|refine zk rfl rfl (fun _=>c4) rfl rfl ?_))
 refine q9 rfl (fun hc=>?_) (fun hc=>?_)
 ·refine zK0 ?_;refine z39 rfl h5 hz rfl trivial ?_;refine zK0 ?_;refine zR rfl trivial ?_;rfl
 have Hb:l.length≤6∧Pr.dayE l=0:=by
  by_cases h1:(6:Int)<l.length
  ·simp[h1] at hc
  ·by_cases h2:Pr.dayE l=0
   ·exact⟨by omega,h2⟩
   ·simp[h1,h2] at hc
 obtain⟨h6,hd⟩:=Hb;clear hc c4;obtain⟨d1,d8,dl⟩:=Pr.day_ok hd;have hh:=ob_of l;have c6:=Ga.fn6 500 500 0 1000;have c7:∀ i k:Nat,i<l.length→k<l.length→i≠k→Ox.Fn Tryz.prog 7 (.acons (Pr.vD l) (.acons (vI (i:Int)) (.acons (vI (k:Int)) .anil))) (·=Pr.vT2 (Pr.kindV l i k) 0):=fun i k hi hk hp=>by have hz:Pr.kindE l i k=0:=Pr.kind_ok.2 ⟨hd,⟨by omega,by omega⟩,⟨by omega,by omega⟩,by omega⟩;have:=Pr.fn7 l i k;rwa[hz,show Pr.kindI l i k=Pr.kindV l i k by unfold Pr.kindI;rw[if_pos hz,Int.toNat_natCast,Int.toNat_natCast]] at this
 have hD:=fun i k (hi:i<l.length) (hk:k<l.length) (hp:i≠k)=>alP_kind (l:=l) hi hk hp;have hv:=alP_irr l;have hY:alL (alP l) l.length 0 0=List.replicate 36 0:=alL_zero;refine zK0 ?_;refine q88 0 [true,false] 34 coT rfl rfl ?_;refine q88 0 [true,true,false] 38 prT rfl rfl ?_;refine JK.loop (fun i:Nat=>⟨LM l++[(5,vI (i:Int))],HM (alL (alP l) l.length i 0) (List.replicate i frG) (prsP (alP l) l.length i 0),4⟩) (fun i=>i≤l.length) (fun i=>l.length-i) 0 (yyu _) (by rw[hY,j0e];exact zJ) fun i hi=>?_;have hQ:List.replicate (i+1) frG=List.replicate i frG++[frG]:=List.replicate_succ';have hZ:(List.replicate i frG).length=i:=List.length_replicate;have ha:i=l.length→alL (alP l) l.length i 0=alL (alP l) l.length l.length 0∧List.replicate i frG=List.replicate l.length frG∧prsP (alP l) l.length i 0=prsG (alP l) l.length:=fun e=>by subst e;exact⟨rfl,rfl,rfl⟩
 have h0:=z5t (alP l) l.length i 0;have hK:=z6k (P:=alP l) h6 hi (yyu l.length);have Hc:alL (alP l) l.length i 0=alL (alP l) l.length i 0:=rfl;have Hd:prsP (alP l) l.length i 0=prsP (alP l) l.length i 0:=rfl;generalize h4:alL (alP l) l.length i 0=A0 at ha h0 ⊢;generalize h7:prsP (alP l) l.length i 0=P0 at ha hK ⊢;generalize He:List.replicate i frG=C0 at hQ hZ ha ⊢;clear Hc Hd;refine zK0 ?_;refine q9 rfl (fun hc=>?_) (fun hc=>?_)
 ·replace hc:=zC hc;have hb:i<l.length:=by omega
  clear ha;refine zK1 ?_;refine y5 xk (Tryz.f3.body.getD .skip) ⟨LM l++[(5,vI (i:Int))],HM A0 (C0++[frG]) P0,4⟩ rfl 7 rfl ?_ ?_
  ·(refine q7 0 xk rfl rfl (z7 1 xk rfl rfl (zU 2 xk rfl rfl ?_));(first|refine q85 rfl (c6) rfl trivial rfl ?_|(refine q86 rfl (c6) rfl (fun r hr=>?_);subst hr));refine q8 ?_;refine zU 3 xk rfl rfl ?_;(refine r8 xk rfl rfl ?_);refine q8 ?_;refine zU 4 xk rfl rfl ?_;(first|refine r8 xk rfl rfl ?_|refine JL.M0 xk rfl ?_|refine q53 xk rfl rfl ?_);refine q8 ?_;refine q7 5 xk rfl rfl (zU 6 xk rfl rfl ?_);refine zK2 ?_;refine q8 ?_;refine v6 xk StF.nil ?_;(exact zJ))
  rw[← hQ];have hR:(List.replicate (i+1) frG).length=i+1:=List.length_replicate;generalize Hf:List.replicate (i+1) frG=C1 at hR ⊢;refine zK0 ?_;refine JK.loop (fun k:Nat=>⟨LM l++[(5,vI (i:Int)),(6,vI (k:Int))],HM (alL (alP l) l.length i k) C1 (prsP (alP l) l.length i k),4⟩) (fun k=>k≤l.length) (fun k=>l.length-k) 0 (yyu _) (by rw[h4,h7];exact zJ) fun k hk=>?_;have hA:=z5t (alP l) l.length i k;have hK:=z6k (P:=alP l) h6 (by omega:i≤l.length) hk;have hw:k<l.length→i≠k→alP l i k=true→alL (alP l) l.length i (k+1)=(alL (alP l) l.length i k).set (Int.toNat (6*(i:Int)+(k:Int))) 1∧prsP (alP l) l.length i (k+1)=prsP (alP l) l.length i k++[[(i:Int),(k:Int)]]:=fun h1 h2 h3=>by
   have:Int.toNat (6*(i:Int)+(k:Int))=6*i+k:=by omega
   rw[this];exact⟨alL_yes hb h1 h6 h3,prsP_yes h2 h3⟩
  have hL:alP l i k=false→alL (alP l) l.length i (k+1)=alL (alP l) l.length i k∧prsP (alP l) l.length i (k+1)=prsP (alP l) l.length i k:=fun h=>⟨alL_no h,prsP_no fun q=>by rw[h] at q;exact absurd q.2 (by simp)⟩;have hB:k=l.length→alL (alP l) l.length i k=alL (alP l) l.length (i+1) 0∧prsP (alP l) l.length i k=prsP (alP l) l.length (i+1) 0:=fun e=>by rw[e];exact⟨alL_row h6,prsP_row i⟩
  generalize alL (alP l) l.length i k=A at hA hw hL hB ⊢;generalize prsP (alP l) l.length i k=ps at hK hw hL hB ⊢;refine zK0 ?_;refine q9 rfl (fun he=>?_) (fun he=>?_)
  ·replace he:=zC he;have hE:k<l.length:=by omega
   refine zK0 ?_;refine q9 rfl (fun hf=>?_) (fun hf=>?_)
   ·have hp:i=k:=by
     have:(i:Int)=k:=by simpa using hf
     omega
    have hn:=hL (by rw[hp];exact hv k);refine zK0 ?_;refine⟨k+1,?_,by omega,by omega⟩;dsimp only;rw[hn.1,hn.2];exact zJ
   ·have hp:i≠k:=fun e=>by rw[e] at hf;simp at hf
    have c7:=c7 i k hb hE hp;have hD:=hD i k hb hE hp;generalize Pr.kindV l i k=v at c7 hD
    (repeat (first|refine zs rfl ?_|refine zc rfl (c7) rfl rfl ?_))
    refine q9 rfl (fun h=>absurd h (by decide)) (fun _=>?_);refine zK0 ?_;refine q9 rfl (fun hT=>?_) (fun hT=>?_)
    ·have hy:=hw hE hp (hD.symm.trans hT);refine zK0 ?_;refine⟨k+1,?_,by omega,by omega⟩;dsimp only;rw[hy.1,hy.2];exact zJ
    ·have hn:=hL (hD.symm.trans hT);refine zK0 ?_;refine⟨k+1,?_,by omega,by omega⟩;dsimp only;rw[hn.1,hn.2];exact zJ
  ·replace he:=zC he;have hr:=hB (by omega);refine zK0 ?_;refine⟨i+1,?_,by omega,by omega⟩;dsimp only;rw[← hr.1,← hr.2,Hf];exact zJ
 ·replace hc:=zC hc;obtain⟨e1,e2,e3⟩:=ha (by omega);rw[e1,e2,e3];clear hQ hZ h0 hK h4 h7 He e1 e2 e3 c6 c7 hD hY;have hV:VG 1 (List.replicate l.length frG) (prsG (alP l) l.length):=hh.vg d1 h6;have hG:=gl_win hV;have hM:pG (prsG (alP l) l.length)=alP l:=hh.pG;have hC:(List.replicate l.length frG).length=l.length:=List.length_replicate;have hN:=fun i k (h1:i<l.length) (h2:k<l.length)=>alL_get (P:=alP l) h1 h2 h6;have Hp:=z5t (alP l) l.length l.length 0;have hl:=Pr.best_in dl;have hP:=Pr.bests_perm hl;have Hh:(Pr.bestO l).length=l.length:=by simpa using hP.length_eq
  have hH:(Pr.bestO l).Pairwise fun x y=>pG (prsG (alP l) l.length) y x=false:=by rw[hM];exact hh.lin hl
  have h9:Pr.bestO l∈lvl (alP l) l.length l.length:=hh.lvl hl;have Hi:=z1c (P:=alP l) hh.nb;have Hj:=fun {i:Nat} (h1:i<l.length) h2=>j2h (P:=alP l) (fun a c h=>(q1o.1 h).1) hv h9 (i:=i) h1 h2;have Hk:(Pr.bestsL l).length≤(lvl (alP l) l.length l.length).length:=hh.count;have Hl:1≤(Pr.bestsL l).length:=List.length_pos_iff.2 hh.ne;have hu:∀ i k,i<l.length→k<l.length→i≠k→(alP l i k=true↔¬ NB (addP (pG (prsG (alP l) l.length)) i k) (List.replicate l.length frG).length):=fun i k h1 h2 h3=>by rw[hC,hM];exact(hh.must h1 h2 h3 fun a c=>z7v).symm
  have hJ:=che_zero hV hG (o:=Pr.bestO l) (by rw[hC];exact hP.map _) hH;have ho:isO (List.replicate l.length frG).length ((Pr.bestO l).map Int.ofNat):=by rw[hC];exact hP.map _
  have c8:=Ga.fn8v hV;have c9:=Pr.fn9 l;have c10:=Pr.fn10 l;have c11:=Ga.fn11 hV hG;have c12:=Ga.fn12 hg hV hG;have c13:=Ga.fn13 hV ho;have c14:=Ga.fn14 hV ho;have c15:=fun(i k:Nat) (h1:i<l.length) (h2:k<l.length)=>Ga.fn15 hg hV hG (i:=i) (k:=k) (by rw[hC];exact h1) (by rw[hC];exact h2) (b:=alP l i k) (fun e=>by rw[e];exact hv k) (hu i k h1 h2);rw[hJ] at c13 c14;rw[hC,hM] at c11 c12;rw[hd,show Pr.bstI l=(Pr.bestO l).map Int.ofNat from if_pos hd] at c9;rw[hd,show Pr.countI l=((Pr.bestsL l).length:Nat) from if_pos hd] at c10;clear hu hJ ho hV hG hM hC hH h9 hl hP hh hd;have Hm:((fstO (alP l) l.length).map Int.ofNat).length=l.length:=by rw[yxh,Hi]
  have Hn:((Pr.bestO l).map Int.ofNat).length=l.length:=by rw[yxh,Hh]
  have hU:∀ i,i<l.length→((fstO (alP l) l.length).map Int.ofNat).getD i 0=(((fstO (alP l) l.length).getD i 0:Nat):Int):=fun i h=>by rw[yyk,yyk,List.getElem?_map,yyl (by omega)];rfl
  have hW:∀ i,i<l.length→((Pr.bestO l).map Int.ofNat).getD i 0=(((Pr.bestO l).getD i 0:Nat):Int):=fun i h=>by rw[yyk,yyk,List.getElem?_map,yyl (by omega)];rfl
  generalize fstO (alP l) l.length=f at *;generalize Pr.bestO l=b at *;generalize f.map Int.ofNat=F at *;generalize b.map Int.ofNat=B at *;generalize (lvl (alP l) l.length l.length).length=G at *;generalize (Pr.bestsL l).length=m at *;generalize Pr.lstI l=q at *;generalize prsG (alP l) l.length=ps at *;generalize List.replicate l.length frG=C at *;generalize alL (alP l) l.length l.length 0=A at *
  (refine z12 [1,2,3] [0,2,3,4] rfl ?_)
  refine JK.cellV 0 rfl rfl ?_
  (repeat (first|refine zs rfl ?_|refine zc rfl (c8) rfl rfl ?_))
  refine q9 rfl (fun h=>absurd h (by decide)) (fun _=>?_)
  (repeat (first|refine zs rfl ?_|refine ze rfl (c9) rfl ?_|refine zc rfl (c10) rfl rfl ?_|refine zc rfl (c11) rfl rfl ?_))
  refine q97 (gs:=gs) hz rfl c12 rfl trivial ?_
  (repeat (first|refine zs rfl ?_|refine zg rfl rfl rfl ?_|refine zk rfl rfl (fun _=>c13) rfl rfl ?_|refine zk rfl rfl (fun _=>c14) rfl rfl ?_))
  refine q9 rfl (fun h=>absurd h ?_) (fun _=>?_)
  ·have k1:¬ ((G:Int)<(m:Int)):=by omega
   have k2:¬ ((m:Int)<1):=by omega
   simp[k1,k2,Hm,Hn]
  clear c8 c9 c10 c11 c12 c13 c14;refine zK0 ?_;refine q7t (σ:=Nat) (τ:=Unit) (fun i:Nat=>⟨LX l A++[(9,vL B),(16,vL F),(18,vI (i:Int))],[(0,.cell glT (vG 1 C ps))],4⟩) (fun i=>i≤l.length∧∀ j,j<i→f.getD j 0=b.getD j 0) (fun i=>l.length-i) 0 ⟨yyu _,fun j h=>absurd h (Nat.not_lt_zero j)⟩ (by exact zJ) (fun _=>⟨LX l A,[(0,.cell glT (vG 1 C ps))],4⟩) (fun _=>True) (fun _ _=>?_) fun i ⟨hi,hj⟩=>?_
  ·refine zK0 ?_;refine JK.loop (fun i:Nat=>⟨LX l A++[(19,vI (i:Int))],[(0,.cell glT (vG 1 C ps))],4⟩) (fun i=>i≤l.length) (fun i=>l.length-i) 0 (yyu _) (by exact zJ) fun i hi=>?_;refine zK0 ?_;refine q9 rfl (fun hc=>?_) (fun hc=>?_)
   ·replace hc:=zC hc;have hb:i<l.length:=by omega
    refine zK0 ?_;refine JK.loop (fun k:Nat=>⟨LX l A++[(19,vI (i:Int)),(20,vI (k:Int))],[(0,.cell glT (vG 1 C ps))],4⟩) (fun k=>k≤l.length) (fun k=>l.length-k) 0 (yyu _) (by exact zJ) fun k hk=>?_;refine zK0 ?_;refine q9 rfl (fun he=>?_) (fun he=>?_)
    ·replace he:=zC he;have hE:k<l.length:=by omega
     have c15:=c15 i k hb hE;have hN:=hN i k hb hE;have Ho:Int.toNat (6*(i:Int)+(k:Int))=6*i+k:=by omega
     rw[← Ho] at hN;have Ha:(A.getD (Int.toNat (6*(i:Int)+(k:Int))) (Ty.int .i64).dflt==1)=alP l i k:=by show(A.getD (Int.toNat (6*(i:Int)+(k:Int))) 0==1)=alP l i k;rw[hN];cases alP l i k<;>rfl
     generalize alP l i k=v at c15 Ha;refine zK0 ?_;refine q97 (gs:=gs) hz rfl c15 rfl trivial ?_;refine zK0 ?_;refine q9 rfl (fun h=>absurd h ?_) (fun _=>?_)
     ·rw[Ha];cases v<;>decide
     refine zK0 ?_;exact⟨k+1,by exact zJ,by omega,by omega⟩
    ·replace he:=zC he;refine zK0 ?_;exact⟨i+1,by exact zJ,by omega,by omega⟩
   ·replace hc:=zC hc;refine zK0 ?_;refine z39 rfl h5 hz rfl trivial ?_;refine zK0 ?_;refine zR rfl trivial ?_;rfl
  ·refine zK0 ?_;refine q9 rfl (fun hc=>?_) (fun hc=>?_)
   ·replace hc:=zC hc;have hb:i<l.length:=by omega
    have Hq:=Hj hb hj;have hU:=hU i hb;have hW:=hW i hb;have g1:F.getD (Int.toNat (i:Int)) (Ty.int .i64).dflt=((f.getD i 0:Nat):Int):=hU;have g2:B.getD (Int.toNat (i:Int)) (Ty.int .i64).dflt=((b.getD i 0:Nat):Int):=hW;refine zK0 ?_;refine q9 rfl (fun h=>absurd h ?_) (fun _=>?_)
    ·rw[g1,g2];simp only[yyr];omega
    refine zK0 ?_;refine q9 rfl (fun h=>?_) (fun h=>?_)
    ·refine zK0 ?_;exact⟨(),by exact zJ,trivial⟩
    ·have h:decide (F.getD (Int.toNat (i:Int)) (Ty.int .i64).dflt<B.getD (Int.toNat (i:Int)) (Ty.int .i64).dflt)=false:=h;rw[g1,g2] at h;have h:=of_decide_eq_false h;refine zK0 ?_;refine⟨i+1,by exact zJ,⟨by omega,fun j Hr=>?_⟩,by omega⟩;by_cases e:j=i
     ·subst e;omega
     ·exact hj j (by omega)
   ·replace hc:=zC hc;refine zK0 ?_;exact⟨(),by exact zJ,trivial⟩
end Go.Proofs.YtcijjbccigbflaaGreatDoor
namespace Go.Proofs.YtcijjbccigbflaaGreatDoor
open Go Go.RowKit Ox Ox.Rn
attribute [local irreducible] JC JL JK JW
abbrev vB'(b:Bool):AV:=.val .bool b
variable {gs:List Gt}
def works03(h1:FnZ (Laid gs) Tryz.prog 115 (.bool true))(h2:FnZ (Laid gs) Tryz.prog 116 (.bool true))(h3:FnZ (Laid gs) Tryz.prog 117 (.bool true)):FnZ (Laid gs) Tryz.prog 72 (.bool true):=by refine z14 (r:=vB' true) rfl (Ox.FnX.intro xok Tryz.func72 rfl Tryz.call72 (yyc rfl) (fun E M0 up hz=>?_));refine JK.start ?_;refine zK0 ?_;refine q7u rfl h1 hz rfl trivial ?_;refine zK0 ?_;refine q3x rfl rfl rfl h2 hz rfl trivial ?_;refine zK0 ?_;refine q3x rfl rfl rfl h3 hz rfl trivial ?_;refine zK0 ?_;refine zR rfl trivial ?_;rfl
def works04(h1:FnZ (Laid gs) Tryz.prog 72 (.bool true))(h2:FnZ (Laid gs) Tryz.prog 73 (.bool true)):FnZ (Laid gs) Tryz.prog 38 (.bool true):=by refine z14 (r:=vB' true) rfl (Ox.FnX.intro xok Tryz.func38 rfl Tryz.call38 (yyc rfl) (fun E M0 up hz=>?_));refine JK.start ?_;refine zK0 ?_;refine q7u rfl h1 hz rfl trivial ?_;refine zK0 ?_;refine q3x rfl rfl rfl h2 hz rfl trivial ?_;refine zK0 ?_;refine zR rfl trivial ?_;rfl
def works05(h1:FnZ (Laid gs) Tryz.prog 38 (.bool true))(h2:FnZ (Laid gs) Tryz.prog 39 (.bool true)):FnZ (Laid gs) Tryz.prog 17 (.bool true):=by refine z14 (r:=vB' true) rfl (Ox.FnX.intro xok Tryz.func17 rfl Tryz.call17 (yyc rfl) (fun E M0 up hz=>?_));refine JK.start ?_;refine zK0 ?_;refine q7u rfl h1 hz rfl trivial ?_;refine zK0 ?_;refine q3x rfl rfl rfl h2 hz rfl trivial ?_;refine zK0 ?_;refine zR rfl trivial ?_;rfl
def works06(h1:FnZ (Laid gs) Tryz.prog 17 (.bool true))(h2:FnZ (Laid gs) Tryz.prog 18 (.bool true)):FnZ (Laid gs) Tryz.prog 5 (.bool true):=by refine z14 (r:=vB' true) rfl (Ox.FnX.intro xok Tryz.func5 rfl Tryz.call5 (yyc rfl) (fun E M0 up hz=>?_));refine JK.start ?_;refine zK0 ?_;refine q7u rfl h1 hz rfl trivial ?_;refine zK0 ?_;refine q3x rfl rfl rfl h2 hz rfl trivial ?_;refine zK0 ?_;refine zR rfl trivial ?_;rfl
end Go.Proofs.YtcijjbccigbflaaGreatDoor
namespace Ox
open Go Go.RowKit
variable {X:Ctx}{s:S}{M:Mem}{ρ:Env}{a:Act}{w:World}{QA:Exit→S→Prop}{all l:List Oper}
def z1y{os:Array Operand}{ts:Array TypeId}{args r:AV}{d:Nat}{ps:String}{af:Array Edge}
  (hf:Fn X.P f args (·=.tup r)) (hr:r.scalL=true) (hd:ltB d X.n=true) (hb:args.bd 0)
  (ha:∀ M ρ a w,SAT X M ρ s w→REG X M ρ s a→args.rvs (fun b=>w.heap[b]?) ρ (os.toList.map a.eval))
  (k:JL X true all QA l (putS (some d) (.tup r) s)) :
  JL X true all QA (⟨some d,.call ⟨.value (.func f),os,ts⟩,ty,ps,af,none⟩::l) s:=by
 intro M ρ a w h1 h2;have he:Array.map a.eval os=(List.map a.eval os.toList).toArray:=by rw[← yxe]
 have k3:a.eval (.func f)=.func (.func f) #[] #[]:=rfl;have hg:∀ w',(execOp a.eval ⟨some d,.call ⟨.value (.func f),os,ts⟩,ty,ps,af,none⟩).run X.P w'=(callFunc f (os.toList.map a.eval).toArray).run X.P w':=fun w'=>by simp only[execOp,resolve,k3,Deferred.ofValue,yye,yyf,yyb,invoke,he];simp
 have e2:Calls X.P f (os.toList.map a.eval).toArray w (fun e w'=>e=.returned (AV.tup r).toV∧Below w.heap.size w w'):=by refine(hf.run _ ρ w _ (q32 (Below.refl _ _)) (ha M ρ a w h1 h2) hb).mono ?_;rintro e w' ⟨v,r',M',rfl,rfl,_,hv,hh,_⟩;exact⟨by rw[(x3 (r:=.tup r) hr).1 hv],hh⟩
 refine z9 (j8 rfl) (x4 rfl (by rw[hg,hf.call]) e2 ?_);rintro e w' ⟨rfl,hh⟩;exact⟨_,rfl,k M ρ _ w' (j6 (h1.later hh)) (h2.putO (dstOk.spec (d:=some d) (w7 hd)) (j9 (yyu _) (q16 (a:=.tup r) hr)) ((x3 (r:=.tup r) hr).2 rfl))⟩
def take3{α:Type}{L:List α}{x y z:α}(hx:L[k]?=some x)(hy:L[k+1]?=some y)(hz:L[k+2]?=some z):(L.drop k).take 3=[x,y,z]:=by obtain⟨h0,rfl⟩:=yxb.1 hx;obtain⟨h1,rfl⟩:=yxb.1 hy;obtain⟨h2,rfl⟩:=yxb.1 hz;rw[yyx h0,yyx h1,yyx h2];rfl
def z4p(h1:SAT X M ρ s w){lb:Nat}{c:Nat→RV}{l:List Sh.Sh}{n:Nat}(hn:l.length=n)(hl:lk s.H lb=some (.raw ty (some 3) (n*3) c))
  (hc:∀ i,i<n→c (i*3)=.i .i64 (l.getD i Sh.z0).1∧c (i*3+1)=.i .i64 (l.getD i Sh.z0).2.1∧c (i*3+2)=.i .i64 (l.getD i Sh.z0).2.2.1) :
  (AV.val (.slice (.cons (.int .i64) (.cons (.int .i64) (.cons (.int .i64) .nil)))) l).rv (fun b=>w.heap[b]?) ρ ((RV.o lb 3 0 n false 0).cv ρ):=by
 subst hn;obtain⟨_,_,_,cs,hh,_,ha,m,cap,hb,e1,_,e3,e4⟩:=h1.own lb _ hl;have hm:m=l.length:=by omega
 subst hm;have hv:(RV.o lb 3 0 l.length false 0).cv ρ=.slice (some ⟨ρ.blk lb,0,none⟩) l.length cap:=by simp[RV.cv,hb,Value.capN]
 rw[hv];refine⟨[.slice (some ⟨ρ.blk lb,0,none⟩) l.length cap],?_,rfl⟩;simp only[Rep];refine⟨_,_,rfl,e3,e4,(fun h=>by cases h),.inr ⟨_,_,cs,ty,(0,0),rfl,hh,fun i hi=>?_⟩⟩;obtain⟨c0,c1,c2⟩:=hc i hi;have k0:=(ha (i*3) (by omega)).1;have k1:=(ha (i*3+1) (by omega)).1;have k2:=(ha (i*3+2) (by omega)).1;rw[c0,← yxt] at k0;rw[c1,← yxt] at k1;rw[c2,← yxt] at k2;have hg:l.getD i Sh.z0=l.get ⟨i,hi⟩:=by simp[yyk,yyl hi]
 rw[hg] at k0 k1 k2;have e:(cs.toList.drop (0+i*Ty.size (.cons (.int .i64) (.cons (.int .i64) (.cons (.int .i64) .nil))))).take (Ty.size (.cons (.int .i64) (.cons (.int .i64) (.cons (.int .i64) .nil))))=[(RV.i .i64 (l.get ⟨i,hi⟩).1).cv ρ,(RV.i .i64 (l.get ⟨i,hi⟩).2.1).cv ρ,(RV.i .i64 (l.get ⟨i,hi⟩).2.2.1).cv ρ]:=by show(cs.toList.drop (0+i*3)).take 3=_;rw[yxu];exact take3 k0 k1 k2
 rw[e];exact⟨[_],[_,_],rfl,rfl,[_],[_],rfl,rfl,[_],[],rfl,rfl,rfl⟩
namespace Rn
noncomputable section
variable {P:Program}{g:Nat}{l':Lit}
def fullL(l:Lit):S:=⟨l.r.map fun p=>(p.1,AV.raw p.2),mapH ⟨mkG l.h,[]⟩,l.nx⟩
def regB(g:Nat)(l:Lit):Bool:=l.r.all fun p=>bAnd (((⟨g,0,[],.e,mkT l.r⟩:Rg).get p.1).eqb p.2) (Bool.not (isNl p.2))
def smB(l:Lit):Bool:=l.r.all fun p=>Nat.blt p.1 256
def j1n{d:Nat}{v:AV}:∀ {l:List (Nat×RV)},lk (l.map fun p=>(p.1,AV.raw p.2)) d=some v→∃ x,(d,x)∈l∧v=.raw x
 |[],h=>by cases h
 |p::r,h=>by
  rw[yy6,lk] at h;by_cases e:p.1=d
  ·rw[if_pos e] at h;injection h with h
   exact⟨p.2,by rw[← e];exact yyi,h.symm⟩
  ·rw[if_neg e] at h;obtain⟨x,h1,h2⟩:=j1n h;exact⟨x,yyh _ h1,h2⟩
def mkT_lk{d:Nat}{v:RV}:∀ {l:List (Nat×RV)},(∀ p∈l,p.1<256)→(mkT l).get d=v→isNl v=false→lk (l.map fun p=>(p.1,AV.raw p.2)) d=some (.raw v)
 |[],_,h,hn=>by subst h;rw[show mkT []=.e from rfl,z7f] at hn;cases hn
 |p::r,hs,h,hn=>by
  have e:mkT (p::r)=(pt p.1).out p.2 (mkT r):=rfl;rw[e,q9t] at h;rw[yy6,lk];by_cases hp:p.1=d
  ·rw[if_pos ⟨hp,hs p yyi⟩] at h;rw[if_pos hp,h]
  ·rw[if_neg fun k=>hp k.1] at h;rw[if_neg hp];exact mkT_lk (fun q hq=>hs q (yyh _ hq)) h hn
def full_of{l:Lit}(h:regB g l=true):JW X (fullL l) (st g (mkT l.r) ⟨mkG l.h,[]⟩ l.nx).toS:=q7q (s:=(st g (mkT l.r) ⟨mkG l.h,[]⟩ l.nx).toS) rfl rfl fun d v hd=>by obtain⟨x,h1,rfl⟩:=j1n hd;obtain⟨k1,k2⟩:=v7.1 (yyy.1 h _ h1);exact u9 (p4 k1) (by cases e:isNl x<;>rw[e] at k2<;>first|rfl|cases k2)
def to_full{l:Lit}(h:smB l=true):JW X (st g (mkT l.r) ⟨mkG l.h,[]⟩ l.nx).toS (fullL l):=q7q (s:=fullL l) rfl rfl fun d v hd=>by obtain⟨e1,e2⟩:=p9 (t:=⟨g,0,[],.e,mkT l.r⟩) hd;obtain⟨q1,q2,q3⟩:=q9j e2;rw[q3] at e1 e2;rw[e1];exact mkT_lk (fun p hp=>by simpa using yyy.1 h p hp) rfl e2
def q8y{l l':Lit}{fn:Func}{c0 a y:Code}(hE:enR P f=some (fn,c0))(hd:dropL k c0=some (.seq a y))(hg:regB (lv (rsM fn.results.toList) (.seq a y) (rsM fn.results.toList) []) l=true)(hs:smB l'=true)
  (h:∀ X,Mt P fn.ntmps 0 none X→JC X a (fun e s=>e=.normal∧JW X (fullL l') s) (fullL l)) (hr:RestF P f (k+1) l'):RestF P f k l:=⟨fun fn' c0' c ha hc=>⟨fun X hm=>by
 rw[hE] at ha;injection ha with ha
 injection ha with h1 h2
 subst h1;subst h2;rw[hd] at hc;injection hc with hc
 subst hc;refine e8 (full_of hg) (q98 (JC.mono (h X hm) fun e s hq=>?_));obtain⟨rfl,hw⟩:=hq;exact e8 ((to_full hs).trans hw) ((hr.ok _ _ y hE (q39 hd rfl)).ok X hm)⟩⟩
def okE(L:List (Nat×AV))(p:Nat×RV):Bool:=
 match lk L p.1 with
 |some (.raw x)=>x.eqb p.2
 |some (.val (.int k) n)=>(RV.i k n).eqb p.2
 |_=>false
def z5f{l:Lit}{L:List (Nat×AV)}{H:List (Nat×HO)}{nx:Nat}(hH:mapH ⟨mkG l.h,[]⟩=H)(hn:l.nx=nx)(h:l.r.all (okE L)=true):JW X (fullL l) ⟨L,H,nx⟩:=fun M ρ a w h1 h2=>by
 subst hH;subst hn;refine⟨ρ,h1.sub (fun _ _ h=>h) (yyn _),⟨h2.size,h2.defers,fun d v hd=>?_⟩⟩;obtain⟨x,hx,rfl⟩:=j1n hd;have hk:=yyy.1 h _ hx;unfold okE at hk;split at hk
 ·rename_i y hy;have e:y=x:=p4 hk;subst e;exact h2.reg d _ hy
 ·rename_i k n hy;have e:RV.i k n=x:=p4 hk;subst e;exact⟨trivial,w9.1 (h2.reg d _ hy).2⟩
 ·cases hk
end
end Rn
end Ox
