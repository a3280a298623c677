/- Texts of the proof of the statement that the last text proves. -/
import Derived.Test.YtjjkdjbbkagclaaGreatDoorPjf
set_option linter.all false
set_option maxHeartbeats 2000000
variable{args:Array Go.Operand}{P X:Nat→Nat→Bool}{a c clk i k lies m n x y:Nat}{R:Nat→List Int}{K d v:Int}{c1 c2 cs cs1 cs2 cs3:List Prop}{B l o ot:List Int}{fo:Go.Operand}{p:Nat→Int}{f:Go.FuncId}{eid t t':Go.TypeId}{q:List Nat}{b:Bool}{α:Type}{w1:Go.World}
namespace Go.Proofs.YtjjkdjbbkagclaaGreatDoor
open Go Go.RowKit Ox Ox.St
attribute [local irreducible] JC JL JK JW
abbrev LO29:List (Nat×AV):=[(5,.lf (.optr 0 [])),(6,.lf (.osl 1)),(7,.lf (.optr 2 []))]
def KF(c d:Code)(n:Int)(ps D:List (List Int))(out pre:List Int):List (Nat×HO):=
 [(4,.fr 0 [(33,.lf (.yld 3)),(5,.lf (.optr 0 [])),(6,.lf (.osl 1)),(7,.lf (.optr 2 []))]),(3,.loop .ready none #[15] c d 33 LO29),
  (0,.cell piT (.val piT (piE n ps D))),(1,.sl 3 (.int .i64) out),(2,.cell (.slice (.int .i64)) (.lf (.osl 5))),(5,.sl 3 (.int .i64) pre)]
def q3a(R:Nat→List Int):∀ n,(frontsN R n).length≤n
 |0=>yym _
 |n+1=>by
  have:=q3a R n;have h2:(frontK (R n)).length≤1:=by
   unfold frontK;split
   ·split<;>simp
   ·simp
  simp only[frontsN,yy7];omega
variable{n:Int}
set_option maxRecDepth 8000 in
set_option maxHeartbeats 2000000 in
def fn46{ps:List (List Int)}(hb:benE n ps=0)(hl:okS l)(h60:l.length≤60):Ox.Fn Tryz.prog 46 (.acons (vTb n ps) (.acons (vL l) .anil)) (·=vL (formR (crs ps) 60 (plR ps l))):=by
 refine Ox.Fn.intro xok Tryz.func46 rfl Tryz.call46 (yyc rfl) (fun E M0 up=>?_);refine z9 ?_;refine zK0 ?_;refine q32 [] rfl rfl trivial Tryz.func48 rfl Tryz.call48 (yyc rfl) rfl fun M1 up1=>?_;refine cdt (fn:=Tryz.f48) rfl ?_;show JK _ _ _ ⟨[(0,vTb n ps),(1,vL l)],[(0,.fr 0 [])],1⟩;refine z9v hb hl h60 ?_;refine zK0 ?_;obtain⟨rv0,hp0,hr0,ho0⟩:=z0f ps hl;refine JK.ghost 6 3 (.int .i64) rfl ?_;refine JK.loop (σ:=(Nat→List Int)×List Int) (fun q=>⟨[(5,.lf (.optr 0 [])),(6,.lf (.osl 1))],[(0,.cell piT (.val piT (piE n ps (rowsD q.1)))),(1,.sl 3 (.int .i64) q.2)],2⟩)
  (fun q=>(∃ rv,Pile (crs ps) rv q.1∧okS rv∧rv.length+q.2.length≤60)∧q.2++formR (crs ps) (60-q.2.length) q.1=formR (crs ps) 60 (plR ps l)) (fun q=>60-q.2.length) (plR ps l,[])
  ⟨⟨rv0,hp0,ho0,by simp;omega⟩,by simp⟩ (by exact zJ) fun⟨R,out⟩ ⟨⟨rv,hp,ho,hlen⟩,hF⟩=>?_
 dsimp only at hp hlen hF ⊢;generalize formR (crs ps) 60 (plR ps l)=F0 at hF ⊢;refine zK0 ?_;refine q32 [5,6,7] rfl rfl trivial Tryz.func49 rfl Tryz.call49 (yyc rfl) rfl fun M2 up2=>?_
 (repeat (first|refine zs rfl ?_|refine znf ?_|refine w8 ?_))
 refine q28 rfl rfl rfl rfl ?_;refine zK0 ?_;refine q5u 2 3 (.int .i64) rfl ?_;refine q31 [5,6,7] rfl rfl rfl Tryz.func91 rfl Tryz.call91 (yyc rfl) trivial fun M3 up3 a1 b1 ha1 hb1=>?_;refine zK0 ?_;refine e8 (s':=⟨[(0,.lf (.yld 3)),(8,.val rsT (rowsD R)),(9,vI 0)],KF a1 b1 n ps (rowsD R) out [],100⟩) (by exact zJ) ?_;refine z6v (Mx:=M3) (nX:=30) (rdX:=none) R (fun pre=>KF a1 b1 n ps (rowsD R) out pre) ?_ ?_
 ·intro pre s post hps;have hpl:pre.length≤8:=by have h1:=congrArg List.length hps;have h2:=q3a R 8;rw[yy7] at h1;change (frontsN R 8).length=_ at h1;omega
  refine YO.intro 0 33 (ps:=#[15]) (assign:=a1) (body:=b1) (nO:=33) (LO:=LO29) (L0:=[(15,vI s),(5,.lf (.optr 0 [])),(6,.lf (.osl 1)),(7,.lf (.optr 2 []))]) rfl rfl rfl ⟨4,_,rfl,rfl⟩ ⟨4,_,rfl,rfl⟩ fun M4 M5 up5 bl hup=>z9 (n6 ha1 ?_);refine zK0 ?_;refine g9 (q5m rfl rfl rfl rfl (z9 (n6 hb1 ?_)));refine zK0 ?_;refine g9 (bodyQ.of rfl rfl rfl rfl rfl rfl ⟨rfl,?_⟩);show JW _ ⟨[],KF a1 b1 n ps (rowsD R) out (pre++[s]),100⟩ _;exact zJ
 ·intro L;refine g9 (rngQ.of (.inr rfl) rfl rfl rfl rfl rfl rfl rfl (q8p ?_));have hfr:=hp;obtain⟨fs,hfs⟩:∃ fs,frontsR R=fs:=⟨_,rfl⟩;rw[hfs];cases fs with
  |nil=>refine zK0 ?_;refine z5 rfl (fun _=>?_) (fun h=>by cases h);refine zK0 ?_;refine⟨.inl rfl,_,_,rfl,trivial,?_⟩;rw[z2t hfs,yxv] at hF;rw[hF]
  |cons s r=>
   obtain⟨s0,sh,sm⟩:=hp.front (s:=s) (by rw[hfs];exact yyj);obtain⟨t1,t2⟩:=ho s sm;obtain⟨r1,r2,he,_,hp2,hext⟩:=hp.take (z08 ps) s0 sh;have hrange:∀ y∈s::r,-1000≤y∧y≤1000:=fun y hy=>by obtain⟨_,_,ym⟩:=hp.front (s:=y) (by rw[hfs];exact hy);have:=(ho y ym).2;unfold lnS at this;omega
   have hleast:leastG keyS s r=s:=by obtain⟨h1,_⟩:=q5d hp 8;change (frontsR R).Pairwise _ at h1;rw[hfs] at h1;exact q78 fun x hx=>(List.pairwise_cons.1 h1).1 x hx
   have c65:=fn87 s r hrange;rw[hleast] at c65;have hrl:rv.length=(r1++r2).length+1:=by rw[he];simp;omega
   have hFn:(out++[s])++formR (crs ps) (60-(out++[s]).length) (takeR (crs ps) R s)=F0:=by rw[show 60-out.length=(60-(out++[s]).length)+1 by simp;omega,q9n hfs] at hF;rw[← hF];simp
   have hlc:((s::r).length:Int)≠0:=by simp;omega
   refine zK17 ?_;refine z5 rfl (fun h=>by simp at h;omega) (fun _=>?_);refine zK17 ?_;refine q32 [5,6,9] rfl rfl trivial Tryz.func50 rfl Tryz.call50 (yyc rfl) rfl fun M5 up5=>?_;refine cdt (fn:=Tryz.f50) rfl ?_;refine e8 (s':=⟨[(0,.lf (.optr 0 [])),(1,vI s)],[(2,.fr 0 (fr29 s)),(0,.cell piT (.val piT (piE n ps (rowsD R)))),(1,.sl 3 (.int .i64) out)],3⟩) (by exact zJ) ?_;refine take_in hb R s t1 t2 out (fun k _ hk=>?_) ?_
   ·rw[hext k];intro hc;have:=(List.append_eq_nil_iff.1 hc).1;unfold ext at this;rcases hk with rfl|hk
    ·simp at this
    ·by_cases e:k=lnS s
     ·simp[e] at this
     ·simp[e,hk] at this
   refine zK0 ?_;refine⟨(takeR (crs ps) R s,out++[s]),by exact zJ,⟨⟨r1++r2,hp2,fun t ht=>ho t ?_,by simp at hrl ⊢;omega⟩,hFn⟩,by simp;omega⟩;rw[he];rcases yy4.1 ht with ht|ht
   ·exact yxt _ ht
   ·exact List.mem_append_right _ (yyi _ ht)
def z2u{X:Nat→Nat→Bool}:∀ (n:Nat) (R:Nat→List Int),(formR X n R).length≤n
 |0,_=>yym _
 |n+1,R=>by
  simp only[formR];split
  ·simp
  ·rw[List.length_cons];exact Nat.succ_le_succ (z2u n _)
abbrev shF(ps:List (List Int))(l:List Int):List Int:=formR (crs ps) 60 (plR ps l)
def fn19{ps:List (List Int)}(h:lstE n ps l=0):Ox.Fn Tryz.prog 19 (.acons (vBe n ps) (.acons (vL l) .anil)) (·=.tup (.acons (vL (shF ps l)) (.acons (vI 0) .anil))):=by
 refine Ox.Fn.intro xok Tryz.func19 rfl Tryz.call19 (yyc rfl) (fun E M0 up=>?_);refine z9 ?_;obtain⟨hb,h60,_⟩:=q58 h;have c27:=fn45 n ps (l::List.nil) hb (fun x hx=>by rw[yyw.1 hx];exact h);have c29:=fn46 hb (q9j h) h60;have hfl:(shF ps l).length≤60:=z2u 60 (plR ps l);change Ox.Fn Tryz.prog 46 _ (·=vL (shF ps l)) at c29;generalize shF ps l=F at c29 hfl ⊢;refine zK13 ?_
 (refine q81 [1] [1,11,13] rfl ?_)
 refine zK13 ?_;refine z5 rfl (fun h=>absurd h (by decide)) (fun _=>?_);have hrep:F.length=(List.replicate (Int.toNat (F.length:Int)) (Ty.int .i64).dflt).length:=by simp
 refine zK25 ?_;refine⟨.inl rfl,_,_,rfl,trivial,?_⟩;rfl
def fn22{ps:List (List Int)}{l m:List Int}(h:lstE n ps l=0)(h2:lstE n ps m=0):Ox.Fn Tryz.prog 22 (.acons (vBe n ps) (.acons (vL l) (.acons (vL m) .anil))) (·=vI (if shF ps l=shF ps m then 0 else 18)):=by
 refine Ox.Fn.intro xok Tryz.func22 rfl Tryz.call22 (yyc rfl) (fun E M0 up=>?_);refine z9 ?_;obtain⟨hb,h60,_⟩:=q58 h;obtain⟨_,h62,_⟩:=q58 h2;have c27:=fn45 n ps (l::m::List.nil) hb (fun x hx=>by
  rcases yyo.1 hx with rfl|hx
  ·exact h
  ·rw[yyw.1 hx];exact h2)
 have c29:=fn46 hb (q9j h) h60;have c30:=fn46 hb (q9j h2) h62;change Ox.Fn Tryz.prog 46 _ (·=vL (shF ps l)) at c29;change Ox.Fn Tryz.prog 46 _ (·=vL (shF ps m)) at c30;have c28:=fn51 (shF ps l) (shF ps m);generalize shF ps l=F at c29 c28 ⊢;generalize shF ps m=G at c30 c28 ⊢;refine zK13 ?_
 (refine q81 [1] [1,2,10,13] rfl ?_)
 refine zK13 ?_;refine z5 rfl (fun h=>absurd h (by decide)) (fun _=>?_)
 (repeat (first|refine zs rfl ?_|refine zg rfl rfl rfl ?_|refine v6 ?_|refine w8 ?_|refine zc rfl (c29) rfl rfl ?_|refine ze rfl (c29) rfl ?_|refine zk rfl rfl (fun _=>c29) rfl rfl ?_|refine zc rfl (c30) rfl rfl ?_|refine ze rfl (c30) rfl ?_|refine zk rfl rfl (fun _=>c30) rfl rfl ?_|refine zc rfl (c28) rfl rfl ?_|refine ze rfl (c28) rfl ?_|refine zk rfl rfl (fun _=>c28) rfl rfl ?_))
 refine z5 rfl (fun hc=>?_) (fun hc=>?_)
 ·refine zK0 ?_;refine⟨.inl rfl,_,_,rfl,trivial,?_⟩;have:¬ F=G:=by simpa using hc
  rw[if_neg this]
 ·refine zK0 ?_;refine⟨.inl rfl,_,_,rfl,trivial,?_⟩;have:F=G:=by simpa using hc
  rw[if_pos this]
abbrev fr21(rd:List Int)(j:Nat):List (Nat×AV):=[(8,.lf (.osl 1)),(9,.lf (.optr 0 [])),(10,.val (.ptr (.slice (.int .i64))) (some rd)),(38,vL rd),(39,vI rd.length),(40,vI (j:Int))]
set_option maxHeartbeats 2000000 in
def take_in2{ps:List (List Int)}(hb:benE n ps=0)(R:Nat→List Int)(s:Int)(h0:s≠0)(hs:lnS s<8)(out:List (List Int))(rd:List Int)(j:Nat)
  (hu:∀ k,k<8→k=lnS s∨crs ps (lnS s) k=true→R k≠[])
  {E:World} {M0 M1:Mem} {nn:Nat} {up up1:Nat→Nat→Value} {K:AV→List (Nat×AV)→List (Nat×HO)→Nat→Prop}
  (hK:K (resV .anil) (fr21 rd j) [(0,.cell piT (.val piT (piE n ps (rowsD (takeR (crs ps) R s))))),(1,.sl 29 (.slice (.int .i64)) out)] 3) :
  JK (Ctx.sub ⟨Tryz.prog,tys,ets,mts,E,M0,nn,none,up,0⟩ M1 Tryz.f50.ntmps none up1) [.code (Tryz.f50.body.getD .skip)]
   (inlQ ⟨Tryz.prog,tys,ets,mts,E,M0,nn,none,up,0⟩ Tryz.f50.results.toList K) ⟨[(0,.lf (.optr 0 [])),(1,vI s)],[(2,.fr 0 (fr21 rd j)),(0,.cell piT (.val piT (piE n ps (rowsD R)))),(1,.sl 29 (.slice (.int .i64)) out)],3⟩:=by
 have c135:=fn92 s h0 hs;obtain⟨hm8,hcr⟩:=q7i ps (z67 hb);refine cdf (fn:=Tryz.f50) rfl ?_;refine zK24 ?_;refine JK.loop (fun k:Nat=>⟨[(0,.lf (.optr 0 [])),(4,vI (lnS s:Nat)),(8,vI (k:Int))],[(2,.fr 0 (fr21 rd j)),(0,.cell piT (.val piT (piE n ps (rowsD (takK (crs ps) R s k))))),(1,.sl 29 (.slice (.int .i64)) out)],3⟩) (fun k=>k≤8) (fun k=>8-k) 0 (yyu _) (by exact zJ) fun k hk=>?_;have hfin:k=8→rowsD (takK (crs ps) R s k)=rowsD (takeR (crs ps) R s):=fun e=>by subst e;unfold rowsD;refine List.map_congr_left fun j hj=>?_;unfold takK;rw[if_pos (yyr.1 hj)]
 have hget:k<8→(rowsD (takK (crs ps) R s k)).getD k (Ty.slice (.int .i64)).dflt=R k:=fun h=>by rw[q7y _ h,z8y]
 have hsame:=z1r (crs ps) R s k;have hsucc:k<8→rowsD (takK (crs ps) R s (k+1))=(rowsD (takK (crs ps) R s k)).set k (takeR (crs ps) R s k):=fun h=>z1q (crs ps) R s h;have ht1:(k=lnS s∨crs ps (lnS s) k=true)→takeR (crs ps) R s k=(R k).drop 1:=fun h=>by unfold takeR;rw[if_pos h]
 have ht2:¬ (k=lnS s∨crs ps (lnS s) k=true)→takeR (crs ps) R s k=R k:=fun h=>by unfold takeR;rw[if_neg h]
 have hne:=hu k;have hcx:=fun q:k<8=>hcr (lnS s) k hs q;unfold crAt at hcx;have hlen8:=z10 (takK (crs ps) R s k);generalize lnS s=o at hs ht1 ht2 hne hcx ⊢;have hB:k<8→(bif ((k:Int)==(o:Int)) then true else(((crM ps).getD (Int.toNat (o:Int)) rwT.dflt).getD (Int.toNat (k:Int)) (Ty.int .i64).dflt==1))=(decide (k=o)||crs ps o k):=fun h8=>by
  rw[Int.toNat_natCast,Int.toNat_natCast];by_cases e:k=o
  ·subst e;simp
  ·have e2:((k:Int)==(o:Int))=false:=by simp;omega
   rw[e2,cond_false];have hcx:=hcx h8;have hd0:((crM ps).getD o rwT.dflt).getD k (Ty.int .i64).dflt=((crM ps).getD o rwT.dflt).getD k 0:=rfl;rw[hd0,hcx];cases crs ps o k<;>simp[e]
 refine zK0 ?_;refine z5 rfl (fun hc=>?_) (fun hc=>?_)
 ·replace hc:=zC hc;have hk8:k<8:=by omega
  have hget:=hget hk8;have hsucc:=hsucc hk8;have hB:=hB hk8;have hne:=hne hk8;refine zK0 ?_;refine z5 rfl (fun hd=>?_) (fun hd=>?_)
  ·have q:k=o∨crs ps o k=true:=by have:=hB.symm.trans hd;simpa using this
   rw[ht1 q] at hsucc;have hl:=List.length_pos_iff.2 (hne q);generalize rowsD (takK (crs ps) R s k)=D at hget hsucc hlen8 ⊢;rw[← hget] at hsucc hl;have hl2:(1:Int)≤((D.getD (Int.toNat (k:Int)) (Ty.slice (.int .i64)).dflt).length:Int):=by rw[Int.toNat_natCast];omega
   refine q4d xk (Tryz.f50.body.getD .skip) rfl 13 rfl ?_
   (refine q7 0 xk rfl rfl (q7 1 xk rfl rfl (q7 2 xk rfl rfl (q7 3 xk rfl rfl (q7 4 xk rfl rfl (q7 5 xk rfl rfl (q7 6 xk rfl rfl (q7 9 xk rfl rfl (q7 10 xk rfl rfl (z7 7 xk rfl rfl (z7 8 xk rfl rfl (z7 11 xk rfl rfl (zU 12 xk rfl rfl ?_))))))))))));exact zB3)
  ·have q:¬ (k=o∨crs ps o k=true):=by have:=hB.symm.trans hd;simpa using this
   have hY:=hsame (ht2 q);refine zK0 ?_;refine⟨k+1,?_,by omega,by omega⟩;rw[hY];exact zJ
 ·replace hc:=zC hc;rw[hfin (by omega)];refine zK0 ?_;exact g9 (q5b rfl rfl rfl rfl hK)
abbrev LO21:List (Nat×AV):=[(8,.lf (.osl 1)),(9,.lf (.optr 0 [])),(10,.lf (.optr 2 []))]
def KR(c d:Code)(n:Int)(ps D:List (List Int))(out:List (List Int))(pre:List Int):List (Nat×HO):=
 [(4,.fr 0 [(52,.lf (.yld 3)),(8,.lf (.osl 1)),(9,.lf (.optr 0 [])),(10,.lf (.optr 2 []))]),(3,.loop .ready none #[29] c d 52 LO21),
  (0,.cell piT (.val piT (piE n ps D))),(1,.sl 29 (.slice (.int .i64)) out),(2,.cell (.slice (.int .i64)) (.lf (.osl 5))),(5,.sl 3 (.int .i64) pre)]
def z34(h:frontsR R=[]):∀ m,Ox.Gl.roundsR X m R=[]
 |0=>rfl
 |m+1=>by simp[Ox.Gl.roundsR,h]
def z11{s:Int}{r:List Int}(h:frontsR R=s::r)(m:Nat):Ox.Gl.roundsR X (m+1) R=(s::r)::Ox.Gl.roundsR X m ((s::r).foldl (takeR X) R):=by simp[Ox.Gl.roundsR,h]
open Ox.Gl in
def PQ_ne{n:Nat}(hi:∀ a,P a a=false)(hn:n≤8){rv:List Int}(h:PQ P n q rv R)(hc:c<n)(ho:okc P n q c=true) :
  ∀ k,k=lnS (stk c)∨crsP P (lnS (stk c)) k=true→R k≠[]:=fun k hk=>by
 obtain⟨s0,sh,sm⟩:=h.pile.front (s:=stk c) (by rw[h.fronts hi hn];exact List.mem_map_of_mem (yy5.2 ⟨yyr.2 hc,ho⟩))
 obtain⟨r1,r2,he,_,hp2,hext⟩:=h.pile.take z09 s0 sh;rw[hext k];intro hc;have:=(List.append_eq_nil_iff.1 hc).1;unfold ext at this;rcases hk with hk|hk
 ·rw[if_pos hk] at this;cases this
 ·by_cases e:k=lnS (stk c)
  ·simp[e] at this
  ·simp[e,hk] at this
open Ox.Gl in
def okc_more{n:Nat}{q cs:List Nat}(hn:cs.Nodup)(h:∀ c∈cs,c<n∧okc P n q c=true)(j:Nat)(hj:j<cs.length):okc P n (q++cs.take j) (cs.getD j 0)=true:=by
 have hg:cs.getD j 0=cs[j]:=by rw[yyg,yyl hj];rfl
 rw[hg];obtain⟨i1,i2⟩:=f9.1 (h _ (yyy hj)).2;refine f9.2 ⟨fun e=>?_,fun a ha hp=>yxt _ (i2 a ha hp)⟩;rcases yy4.1 e with e|e
 ·exact i1 e
 ·obtain⟨i,hi,e⟩:=List.mem_take_iff_getElem.1 e;have h2:=(List.getElem_inj hn).1 e;omega
open Ox.Gl in
set_option maxRecDepth 8000 in
set_option maxHeartbeats 4000000 in
def fn21{ps:List (List Int)}(hX:crs ps=crsP P)(hi:∀ a,P a a=false)(hm:m≤8){o:List Nat}(hp:o.Perm (List.range m))(hl:o.Pairwise fun x y=>P y x=false)
  (h:lstE n ps (o.map stk)=0):Ox.Fn Tryz.prog 21 (.acons (vBe n ps) (.acons (vL (o.map stk)) .anil)) (·=.tup (.acons (vLL (roundsR (crs ps) 60 (plR ps (o.map stk)))) (.acons (vI 0) .anil))):=by
 refine Ox.Fn.intro xok Tryz.func21 rfl Tryz.call21 (yyc rfl) (fun E M0 up=>?_);refine z9 ?_;obtain⟨hb,h60,_⟩:=q58 h;have hol:=q9j h;have c27:=fn45 n ps ((o.map stk)::List.nil) hb (fun x hx=>by rw[yyw.1 hx];exact h);have hPQ:PQ P m [] (o.map stk).reverse (plR ps (o.map stk)):=by have:=z1e hp hl;unfold plR;rw[hX];exact this
 generalize o.map stk=l at c27 h60 hol hPQ h ⊢;refine zK13 ?_
 (refine q81 [1] [1,15,17] rfl ?_)
 refine zK13 ?_;refine z5 rfl (fun h=>absurd h (by decide)) (fun _=>?_);refine zK0 ?_;refine JK.weakL (s':=⟨[(8,.lf .nils),(24,vTb n ps),(25,vL l)],[],0⟩) (by exact zJ) ?_;refine JK.inlN [] 8 rfl rfl rfl trivial Tryz.func48 rfl Tryz.call48 (yyc rfl) rfl fun M1 up1=>?_;refine cdt (fn:=Tryz.f48) rfl ?_;show JK _ _ _ ⟨[(0,vTb n ps),(1,vL l)],[(0,.fr 0 [])],1⟩;refine z9v hb hol h60 ?_;refine zK0 ?_;refine JK.ghost 8 29 (.slice (.int .i64)) rfl ?_;generalize plR ps l=R0 at hPQ ⊢;refine JK.loop (σ:=(Nat→List Int)×List (List Int)) (fun z=>⟨[(8,.lf (.osl 1)),(9,.lf (.optr 0 []))],[(0,.cell piT (.val piT (piE n ps (rowsD z.1)))),(1,.sl 29 (.slice (.int .i64)) z.2)],2⟩)
  (fun z=>(∃ q rv,PQ P m q rv z.1∧q.Nodup∧(∀ c∈q,c<m)∧z.2.length≤q.length)∧z.2++roundsR (crs ps) (60-z.2.length) z.1=roundsR (crs ps) 60 R0) (fun z=>60-z.2.length) (R0,[])
  ⟨⟨[],_,hPQ,yx4,fun _ h=>absurd h yxg,yym _⟩,by simp⟩ (by exact zJ) fun⟨R,out⟩ ⟨⟨q,rv,hq,hqn,hqm,hql⟩,hF⟩=>?_
 dsimp only at hq hql hF ⊢;have hqm8:q.length≤m:=by have:=Ox.Gl.nodup_sub hqn (a:=List.range m) fun c hc=>yyr.2 (hqm c hc);simpa using this
 generalize roundsR (crs ps) 60 R0=F0 at hF ⊢;refine zK0 ?_;refine q32 [8,9,10] rfl rfl trivial Tryz.func49 rfl Tryz.call49 (yyc rfl) rfl fun M2 up2=>?_
 (repeat (first|refine zs rfl ?_|refine znf ?_|refine w8 ?_))
 refine q28 rfl rfl rfl rfl ?_;refine zK0 ?_;refine q5u 2 3 (.int .i64) rfl ?_;refine q31 [8,9,10] rfl rfl rfl Tryz.func91 rfl Tryz.call91 (yyc rfl) trivial fun M3 up3 a1 b1 ha1 hb1=>?_;refine zK0 ?_;refine e8 (s':=⟨[(0,.lf (.yld 3)),(8,.val rsT (rowsD R)),(9,vI 0)],KR a1 b1 n ps (rowsD R) out [],100⟩) (by exact zJ) ?_;refine z6v (Mx:=M3) (nX:=52) (rdX:=none) R (fun pre=>KR a1 b1 n ps (rowsD R) out pre) ?_ ?_
 ·intro pre s post hps;have hpl:pre.length≤8:=by have h1:=congrArg List.length hps;have h2:=q3a R 8;rw[yy7] at h1;change (frontsN R 8).length=_ at h1;omega
  refine YO.intro 0 52 (ps:=#[29]) (assign:=a1) (body:=b1) (nO:=52) (LO:=LO21) (L0:=[(29,vI s),(8,.lf (.osl 1)),(9,.lf (.optr 0 [])),(10,.lf (.optr 2 []))]) rfl rfl rfl ⟨4,_,rfl,rfl⟩ ⟨4,_,rfl,rfl⟩ fun M4 M5 up5 bl hup=>z9 (n6 ha1 ?_);refine zK0 ?_;refine g9 (q5m rfl rfl rfl rfl (z9 (n6 hb1 ?_)));refine zK0 ?_;refine g9 (bodyQ.of rfl rfl rfl rfl rfl rfl ⟨rfl,?_⟩);show JW _ ⟨[],KR a1 b1 n ps (rowsD R) out (pre++[s]),100⟩ _;exact zJ
 ·intro L;refine g9 (rngQ.of (.inr rfl) rfl rfl rfl rfl rfl rfl rfl (q8p ?_));have hfe:=hq.fronts hi hm;obtain⟨cs,hcs⟩:∃ cs,(List.range m).filter (okc P m q)=cs:=⟨_,rfl⟩;have hcm:∀ c∈cs,c<m∧okc P m q c=true:=fun c hc=>by rw[← hcs,yy5,yyr] at hc;exact hc
  have hcn:cs.Nodup:=by rw[← hcs];exact List.nodup_range.filter _
  rw[hcs] at hfe;rw[hfe];cases cs with
  |nil=>refine zK0 ?_;refine z5 rfl (fun _=>?_) (fun h=>by cases h);refine zK0 ?_;refine⟨.inl rfl,_,_,rfl,trivial,?_⟩;rw[z34 hfe,yxv] at hF;rw[hF]
  |cons c0 cr=>
   have hcl:(c0::cr).length=(List.map stk (c0::cr)).length:=by simp
   have hne:List.map stk (c0::cr)≠[]:=by simp
   have hrl:(List.map stk (c0::cr)).length≤8:=by have:=q3a R 8;change (frontsR R).length≤8 at this;rwa[hfe] at this
   have hFn:(out++[List.map stk (c0::cr)])++roundsR (crs ps) (60-(out++[List.map stk (c0::cr)]).length) ((List.map stk (c0::cr)).foldl (takeR (crs ps)) R)=F0:=by rw[show 60-out.length=(60-(out++[List.map stk (c0::cr)]).length)+1 by simp;omega,z11 (s:=stk c0) (r:=List.map stk cr) hfe] at hF;rw[← hF];simp
   obtain⟨rv2,hq2⟩:=hq.takes hi (c0::cr) hcm hcn;have hget:∀ j,j<(List.map stk (c0::cr)).length→(List.map stk (c0::cr)).getD j 0=stk ((c0::cr).getD j 0):=fun j hj=>by rw[yyg,yyg,List.getElem?_map,yyl (by simpa using hj)];rfl
   generalize c0::cr=cs at hcm hcn hcl hget hq2 hFn hne hrl hfe ⊢;generalize hrd:List.map stk cs=rd at *;have hrd0:(rd.length:Int)≠0:=by have:=List.length_pos_iff.2 hne;omega
   refine zK0 ?_;refine z5 rfl (fun h=>absurd (eq_of_beq h) hrd0) (fun _=>?_)
   (refine z1j [5,2] [8,9,10] rfl ?_)
   refine zK0 ?_;refine JK.loop (fun j:Nat=>⟨[(8,.lf (.osl 1)),(9,.lf (.optr 0 [])),(10,.val (.ptr (.slice (.int .i64))) (some rd)),(38,vL rd),(39,vI rd.length),(40,vI (j:Int))],[(0,.cell piT (.val piT (piE n ps (rowsD ((rd.take j).foldl (takeR (crs ps)) R))))),(1,.sl 29 (.slice (.int .i64)) out)],2⟩) (fun j=>j≤rd.length) (fun j=>rd.length-j) 0 (yyu _) (by exact zJ) fun j hj=>?_;obtain⟨rvj,hqj⟩:=hq.takes hi (cs.take j) (fun c hc=>hcm c (List.mem_of_mem_take hc)) (hcn.sublist (List.take_sublist j cs));rw[List.map_take,hrd,← hX] at hqj;have hsucc:j<rd.length→(rd.take (j+1)).foldl (takeR (crs ps)) R=takeR (crs ps) ((rd.take j).foldl (takeR (crs ps)) R) (rd.getD j 0):=fun h=>by rw[yy2 h,List.foldl_append,yyg,yyl h];rfl
   have hall:j=rd.length→(rd.take j).foldl (takeR (crs ps)) R=rd.foldl (takeR (crs ps)) R:=fun h=>by rw[h,yxq]
   generalize (rd.take j).foldl (takeR (crs ps)) R=Rj at hqj hsucc hall ⊢;refine zK0 ?_;refine z5 rfl (fun hc=>?_) (fun hc=>?_)
   ·replace hc:=zC hc;have hj8:j<rd.length:=by omega
    have hcj:j<cs.length:=by omega
    have hok:=okc_more hcn hcm j hcj;have hlt:cs.getD j 0<m:=by rw[yyg,yyl hcj];exact(hcm _ (yyy hcj)).1
    have hne2:=PQ_ne hi hm hqj hlt hok;have hln:=p8 (cs.getD j 0);have hpos:stk (cs.getD j 0)≠0:=by unfold stk;omega
    rw[← hX,← hget j hj8] at hne2;rw[← hget j hj8] at hln hpos;have hsucc:=hsucc hj8;refine zK0 ?_;refine q32 [8,9,10,38,39,40] rfl rfl trivial Tryz.func50 rfl Tryz.call50 (yyc rfl) rfl fun M5 up5=>?_;refine cdt (fn:=Tryz.f50) rfl ?_;rw[Int.toNat_natCast];refine e8 (s':=⟨[(0,.lf (.optr 0 [])),(1,vI (rd.getD j 0))],[(2,.fr 0 (fr21 rd j)),(0,.cell piT (.val piT (piE n ps (rowsD Rj)))),(1,.sl 29 (.slice (.int .i64)) out)],3⟩) (by exact zJ) ?_;refine take_in2 hb Rj (rd.getD j 0) hpos (by rw[hln];omega) out rd j (fun k _ hk=>hne2 k hk) ?_;refine zK0 ?_;refine⟨j+1,?_,by omega,by omega⟩;rw[hsucc];exact zJ
   ·replace hc:=zC hc;rw[hall (by omega)];refine zK0 ?_;refine⟨(rd.foldl (takeR (crs ps)) R,out++[rd]),by exact zJ,⟨⟨q++cs,rv2,by rw[hX];exact hq2,?_,fun c hc=>?_,?_⟩,hFn⟩,by simp;omega⟩
    ·refine List.nodup_append.2 ⟨hqn,hcn,fun a ha b hb e=>?_⟩;exact(f9.1 (hcm b hb).2).1 (e▸ha)
    ·rcases yy4.1 hc with h|h
     ·exact hqm c h
     ·exact(hcm c h).1
    ·have:=List.length_pos_iff.2 hne;simp;omega
end Go.Proofs.YtjjkdjbbkagclaaGreatDoor
namespace Ox.Gl
open Go Go.RowKit Ox
variable {kt:Ty}[DecidableEq kt.den]
abbrev shE(kt:Ty):=Ent kt (.int .i64)
def z0y{α β:Type}{f:α→List β}{m:Nat}(hf:∀ a,(f a).length≤m):∀ l:List α,(l.flatMap f).length≤m*l.length
 |[]=>by simp
 |a::l=>by have:=z0y hf l;have:=hf a;simp only[List.flatMap_cons,yy7,List.length_cons,Nat.mul_add];omega
structure CM(Q:kt.den→Prop)(es:List (shE kt))(clk:Nat)(c:kt.den→Nat):Prop where
 wf:MWF es clk
 nn:∀ e∈es,0≤(show Int from e.2.1)
 ok:∀ e∈es,Q e.1
 eq:∀ p:kt.den,(show Int from mGet es p (0:Int))=(c p:Int)
def CM.congr{Q:kt.den→Prop}{es:List (shE kt)}{c c':kt.den→Nat}(h:CM Q es clk c)(hc:∀ p,c p=c' p):CM Q es clk c':=⟨h.wf,h.nn,h.ok,fun p=>by rw[← hc p];exact h.eq p⟩
def CM.nil(Q:kt.den→Prop)(clk:Nat):CM Q [] clk fun _=>0:=⟨.nil,(fun _ h=>by cases h),(fun _ h=>by cases h),fun _=>rfl⟩
def CM.add{Q:kt.den→Prop}{es:List (shE kt)}{c:kt.den→Nat}(h:CM Q es clk c)(q:kt.den)(n:Nat)(hq:Q q)(hv:v=(c q:Int)+n) :
  CM Q (mPut es clk q v) (mClk es clk q) fun p=>if p=q then c p+n else c p:=by
 refine⟨h.wf.put,fun e he=>?_,fun e he=>?_,fun p=>?_⟩
 ·rcases(q36 h.wf).1 he with⟨h1,_⟩|⟨_,h1,_⟩
  ·exact h.nn e h1
  ·show(0:Int)≤e.2.1;rw[h1];show(0:Int)≤v;omega
 ·rcases(q36 h.wf).1 he with⟨h1,_⟩|⟨h1,_,_⟩
  ·exact h.ok e h1
  ·show Q e.1;rw[h1];exact hq
 ·show(mGet (mPut es clk q v) p (0:Int):Int)=_;rw[mGet_put h.wf (inferInstance)];by_cases e:p=q
  ·rw[if_pos e,if_pos e,e];exact hv
  ·rw[if_neg e,if_neg e];exact h.eq p
def bag(es:List (shE kt)):List kt.den:=es.flatMap fun e=>List.replicate (show Int from e.2.1).toNat (e.1:kt.den)
def bag_snoc(es:List (shE kt))(e:(shE kt)):bag (es++[e])=bag es++List.replicate (show Int from e.2.1).toNat (e.1:kt.den):=by simp[bag]
def j2i(n:Nat)(a p:kt.den):(List.replicate n a).count p=if p=a then n else 0:=by
 rw[List.count_replicate];by_cases e:p=a
 ·subst e;simp
 ·rw[if_neg e,if_neg];simpa using fun h=>e h.symm
def z22{clk:Nat}:∀ {es:List (shE kt)},MWF es clk→(∀ e∈es,0≤(show Int from e.2.1))→∀ p:kt.den,((bag es).count p:Int)=mGet es p (0:Int)
 |[],_,_,p=>rfl
 |e::es,hw,hn,p=>by
  have hw':MWF es clk:=hw.sub (List.sublist_cons_self e es);have ih:=z22 hw' (fun a ha=>hn a (yyi _ ha)) p;have hk:∀ a∈es,a.1≠e.1:=fun a ha h=>(yx7.1 hw.nk).1 (yy0.2 ⟨a,ha,h⟩);have e1:bag (e::es)=List.replicate (show Int from e.2.1).toNat (e.1:kt.den)++bag es:=rfl;rw[e1,List.count_append,j2i];have hne:=hn e yyj;by_cases h:p=e.1
  ·rw[if_pos h];have h0:((bag es).count p:Int)=0:=by rw[ih,t9 (fun a ha hx=>hk a ha (hx.trans h))]
   have h2:mGet (e::es) p (0:Int)=e.2.1:=by rw[h];exact o0 hw yyj
   rw[h2];have:((show Int from e.2.1).toNat:Int)=e.2.1:=Int.toNat_of_nonneg hne;omega
  ·rw[if_neg h,yxx,ih];cases hi:mIdx es p with
   |none=>
    rw[t8] at hi;rw[t9 hi,t9];intro a ha;rcases yyo.1 ha with rfl|ha
    ·exact fun h'=>h h'.symm
    ·exact hi a ha
   |some j=>obtain⟨hl,hk2⟩:=q0l hi;rw[← hk2,o0 hw' (yyy hl),o0 hw (yyi _ (yyy hl))]
def z69{Q:kt.den→Prop}{es:List (shE kt)}{L:List kt.den}(h:CM Q es clk fun p=>L.count p):(bag es).Perm L:=by rw[List.perm_iff_count];intro p;have:=z22 h.wf h.nn p;rw[show mGet es p (0:Int)=((L.count p:Nat):Int) from h.eq p] at this;omega
def z1a(n:Nat)(a:kt.den)(f:kt.den→List kt.den)(q:kt.den):((List.replicate n a).flatMap f).count q=n*(f a).count q:=by
 induction n with
 |zero=>simp
 |succ n ih=>rw[List.replicate_succ,List.flatMap_cons,List.count_append,ih,Nat.succ_mul,Nat.add_comm]
structure Far(es done:List (shE kt)):Prop where
 rest:∃ rest,(done++rest).Perm es
def Far.nil(es:List (shE kt)):Far es []:=⟨es,.refl _⟩
def Far.sub{es done:List (shE kt)}(h:Far es done):∀ e∈done,e∈es:=by obtain⟨rest,h⟩:=h.rest;exact fun e he=>h.mem_iff.1 (yxt _ he)
def Far.snoc{es done:List (shE kt)}(hw:MWF es clk)(h:Far es done){e:(shE kt)}(he:e∈es)(hs:e.2.2∉done.map (·.2.2)):Far es (done++[e]):=by obtain⟨rest,h⟩:=h.rest;have:e∈rest:=(yy4.1 (h.mem_iff.2 he)).resolve_left fun hd=>hs (List.mem_map_of_mem hd);obtain⟨s,t,rfl⟩:=List.append_of_mem this;refine⟨s++t,.trans ?_ h⟩;rw[yxm];refine List.Perm.append_left _ ?_;rw[List.singleton_append];exact List.perm_middle.symm
def Far.all{es done:List (shE kt)}(hw:MWF es clk)(h:Far es done)(ha:∀ e∈es,e.2.2∈done.map (·.2.2)):done.Perm es:=by
 obtain⟨rest,h⟩:=h.rest;cases rest with
 |nil=>simpa using h
 |cons x r=>have hx:x∈es:=h.mem_iff.1 (List.mem_append_right _ yyj);obtain⟨y,hy,hxy⟩:=yy0.1 (ha x hx);have hn:((done++x::r).map (·.2.2)).Nodup:=(h.map _).nodup_iff.2 hw.nb;rw[yx2,List.nodup_append] at hn;exact absurd hxy (hn.2.2 _ (List.mem_map_of_mem hy) _ (by simp))
def Far.len{es done:List (shE kt)}(h:Far es done):(bag done).length≤(bag es).length:=by obtain⟨rest,h⟩:=h.rest;have:=(z2w (f:=fun e:(shE kt)=>List.replicate (show Int from e.2.1).toNat (e.1:kt.den)) h).length_eq;rw[List.flatMap_append,yy7] at this;unfold bag;omega
def far_step{done:List (shE kt)}{p:kt.den}{many:Int}{born:Nat}{f:kt.den→List kt.den}(q:kt.den):((bag (done++[(p,many,born)])).flatMap f).count q=((bag done).flatMap f).count q+many.toNat*(f p).count q:=by rw[bag_snoc,List.flatMap_append,List.count_append,z1a]
def j2l{Q:kt.den→Prop}{es es3:List (shE kt)}{c:kt.den→Nat}{f:kt.den→Bool}(h:CM Q es clk c)(hs:es3.Sublist es)(hi:∀ e∈es,e∈es3↔f e.1=true):CM Q es3 clk fun p=>if f p=true then c p else 0:=by
 have hw:=h.wf.sub hs;refine⟨hw,fun e he=>h.nn e (hs.subset he),fun e he=>h.ok e (hs.subset he),fun p=>?_⟩;have h1:=h.eq p;cases hx:mIdx es p with
 |none=>
  rw[t8] at hx;have e1:mGet es p (0:Int)=(0:Int):=t9 hx;have e2:mGet es3 p (0:Int)=(0:Int):=t9 fun e he=>hx e (hs.subset he);show mGet es3 p (0:Int)=_;rw[e2];have h0:(c p:Int)=0:=by rw[← h1];exact e1
  have h0':c p=0:=by omega
  rw[h0'];split<;>rfl
 |some k=>
  obtain⟨hl,hk⟩:=q0l hx;have he:=yyy hl;generalize es[k]=e at hk he;subst hk;show mGet es3 e.1 (0:Int)=_;by_cases hf:f e.1=true
  ·rw[if_pos hf,o0 hw ((hi e he).2 hf),← h1];exact(o0 h.wf he).symm
  ·rw[if_neg hf];refine t9 fun a ha hk=>hf ?_;have:=h.wf.eq (hs.subset ha) he hk;subst this;exact(hi a he).1 ha
def beq_dec[BEq α][LawfulBEq α](p a:α)[Decidable (p=a)]:(a==p)=decide (p=a):=by rw[yyz,beq_iff_eq,decide_eq_true_iff];exact eq_comm
def cnt1[BEq α][LawfulBEq α](c n:Nat)(p a:α)[Decidable (p=a)]:(if p=a then c+n else c)=c+n*[a].count p:=by
 rw[List.count_singleton,beq_dec];by_cases h:p=a
 ·rw[if_pos h,decide_eq_true h,if_pos rfl];omega
 ·rw[if_neg h,decide_eq_false h,if_neg (by decide)];omega
section
variable {kt:Ty}[DecidableEq kt.den]
def CM.del{Q:kt.den→Prop}{es:List (shE kt)}{c:kt.den→Nat}(h:CM Q es clk c)(x:kt.den):CM Q (mDel es x) clk fun p=>if p=x then 0 else c p:=by
 have:=j2l (f:=fun p=>decide (p≠x)) h z6g fun e he=>by rw[z6h h.wf,decide_eq_true_iff];exact⟨fun k=>k.2,fun k=>⟨he,k⟩⟩
 refine this.congr fun p=>?_;by_cases e:p=x<;>simp[e]
def CM.key{Q:kt.den→Prop}{es:List (shE kt)}{c:kt.den→Nat}(h:CM Q es clk c){p:kt.den}(hp:c p≠0):∃ e∈es,e.1=p:=by
 refine yx3 fun hc=>hp ?_;have h1:=h.eq p;have h2:mGet es p (0:Int)=(0:Int):=t9 fun e he k=>hc ⟨e,he,k⟩;have h3:(c p:Int)=0:=by rw[← h1];exact h2
 omega
end
section
variable {α:Type}[DecidableEq α]
def mixC(L:List α)(f:α→List α)(done:List α)(p:α):Nat:=(L.filter fun y=>decide (y∉done)).count p+((L.filter fun y=>decide (y∈done)).flatMap f).count p
def mix_nil(L:List α)(f:α→List α)(p:α):mixC L f [] p=L.count p:=by unfold mixC;rw[List.filter_eq_self.2 (by simp),List.filter_eq_nil_iff.2 (by simp)];simp
def mix_all{L:List α}{f:α→List α}{done:List α}(h:∀ y∈L,y∈done)(p:α):mixC L f done p=(L.flatMap f).count p:=by unfold mixC;rw[List.filter_eq_nil_iff.2 (fun y hy=>by simpa using h y hy),List.filter_eq_self.2 fun y hy=>decide_eq_true (h y hy)];simp
def z2v{L:List α}{f:α→List α}{x:α}(h:∀ y∈L,x∉f y):(L.flatMap f).count x=0:=List.count_eq_zero.2 fun hm=>by obtain⟨y,hy,hx⟩:=List.mem_flatMap.1 hm;exact h y hy hx
def mix_val{L:List α}{f:α→List α}{done:List α}{x:α}(hx:x∉done)(hl:∀ y∈L,x∉f y):mixC L f done x=L.count x:=by unfold mixC;rw[z2v fun y hy=>hl y (yy5.1 hy).1,List.count_filter (by simpa using hx)];rfl
def q9o(f:α→List α){done:List α}{x:α}(hx:x∉done)(p:α):∀ L:List α,
  ((L.filter fun y=>decide (y∈done++[x])).flatMap f).count p=((L.filter fun y=>decide (y∈done)).flatMap f).count p+L.count x*(f x).count p
 |[]=>by simp
 |y::L=>by
  have ih:=q9o f hx p L;by_cases h:y=x
  ·subst h;rw[List.filter_cons_of_pos (by simp),yx8 (by simpa using hx),List.flatMap_cons,List.count_append,ih,List.count_cons_self,Nat.succ_mul];omega
  ·have hc:(y::L).count x=L.count x:=List.count_cons_of_ne h;by_cases h2:y∈done
   ·rw[List.filter_cons_of_pos (by simp[h2]),List.filter_cons_of_pos (by simpa using h2),List.flatMap_cons,List.flatMap_cons,List.count_append,List.count_append,ih,hc];omega
   ·rw[yx8 (by simp[h,h2]),yx8 (by simpa using h2),ih,hc]
def mix_step{L:List α}{f:α→List α}{done:List α}{x:α}(hx:x∉done)(hl:∀ y∈L,x∉f y)(p:α):mixC L f (done++[x]) p=if p=x then 0 else mixC L f done p+L.count x*(f x).count p:=by
 by_cases h:p=x
 ·subst h;rw[if_pos rfl];unfold mixC;rw[z2v fun y hy=>hl y (yy5.1 hy).1,List.count_eq_zero.2 fun hm=>by have:=(yy5.1 hm).2;simp at this]
 ·rw[if_neg h];unfold mixC;rw[q9o f hx p L];have:(L.filter fun y=>decide (y∉done++[x])).count p=(L.filter fun y=>decide (y∉done)).count p:=by
   by_cases h2:p∈done
   ·rw[List.count_eq_zero.2 fun hm=>?_,List.count_eq_zero.2 fun hm=>?_]
    ·have:=(yy5.1 hm).2;simp[h2] at this
    ·have:=(yy5.1 hm).2;simp[h2] at this
   ·rw[List.count_filter (by simp[h,h2]),List.count_filter (by simpa using h2)]
  rw[this];omega
end
def stp(P:Nat→Nat→Bool)(n x m:Nat):List Nat:=((List.range m).filter (okx P n x)).map fun c=>x ||| 2 ^ c
def q8a(P:Nat→Nat→Bool)(n m:Nat):kb P n (m+1)=(kb P n m).flatMap fun x=>stp P n x n:=rfl
def z5o(P:Nat→Nat→Bool)(n x m:Nat):stp P n x (m+1)=if okx P n x m=true then stp P n x m++[x ||| 2 ^ m] else stp P n x m:=by
 unfold stp;rw[List.range_succ,List.filter_append,yx2];split
 ·rename_i h;rw[List.filter_cons_of_pos h];rfl
 ·rename_i h;rw[yx8 h];simp
def or_ne(h:x.testBit m=false):x ||| 2 ^ m≠x:=fun e=>by
 have:(x ||| 2 ^ m).testBit m=x.testBit m:=by rw[e]
 rw[Nat.testBit_or,Nat.testBit_two_pow,h] at this;simp at this
def stp_not(P:Nat→Nat→Bool)(n x m:Nat):x∉stp P n x m:=fun h=>by obtain⟨c,hc,e⟩:=yy0.1 h;have:=(yy5.1 hc).2;unfold okx at this;rw[yyd,yyx] at this;exact or_ne this.1 e
def z85{P:Nat→Nat→Bool}{n k x y:Nat}(hx:x∈kb P n k)(hy:y∈kb P n k):x∉stp P n y n:=fun h=>by
 have:x∈kb P n (k+1):=by rw[q8a,List.mem_flatMap];exact⟨y,hy,h⟩
 have:=kb_level hx this;omega
section
variable {kt:Ty}[DecidableEq kt.den]
def CM.imp{Q Q':kt.den→Prop}{es:List (shE kt)}{c:kt.den→Nat}(h:CM Q es clk c)(hq:∀ p,Q p→Q' p):CM Q' es clk c:=⟨h.wf,h.nn,fun e he=>hq _ (h.ok e he),h.eq⟩
def CM.delQ{Q:kt.den→Prop}{es:List (shE kt)}{c:kt.den→Nat}(h:CM Q es clk c)(x:kt.den):CM (fun p=>Q p∧p≠x) (mDel es x) clk fun p=>if p=x then 0 else c p:=
 let k:=CM.del h x
 ⟨k.wf,k.nn,fun e he=>⟨k.ok e he,((z6h h.wf).1 he).2⟩,k.eq⟩
end
abbrev u64T:Ty:=.int .u64
variable {P:Nat→Nat→Bool}{n:Nat}
def KL(P:Nat→Nat→Bool)(n k:Nat):List Int:=(kb P n k).map Int.ofNat
def fK(P:Nat→Nat→Bool)(n:Nat)(p:Int)(m:Nat):List Int:=(stp P n p.toNat m).map Int.ofNat
def KL_succ(k:Nat):KL P n (k+1)=(KL P n k).flatMap fun p=>fK P n p n:=by unfold KL fK;rw[q8a,List.map_flatMap,List.flatMap_map];rfl
variable{p:Int}
def z3j:p∈KL P n k↔∃ x∈kb P n k,p=(x:Int):=by unfold KL;rw[yy0];exact⟨fun⟨x,h1,h2⟩=>⟨x,h1,h2.symm⟩,fun⟨x,h1,h2⟩=>⟨x,h1,h2.symm⟩⟩
def j11{p q:Int}:q∈fK P n p m↔∃ y∈stp P n p.toNat m,q=(y:Int):=by unfold fK;rw[yy0];exact⟨fun⟨x,h1,h2⟩=>⟨x,h1,h2.symm⟩,fun⟨x,h1,h2⟩=>⟨x,h1,h2.symm⟩⟩
def z7g{x y:Int}(hx:x∈KL P n k)(hy:y∈KL P n k):x∉fK P n y n:=fun h=>by
 obtain⟨a,ha,rfl⟩:=z3j.1 hx;obtain⟨b,hb,rfl⟩:=z3j.1 hy;obtain⟨z,hz,e⟩:=j11.1 h;rw[Int.toNat_natCast] at hz;have:a=z:=by omega
 subst this;exact z85 ha hb hz
def KL_next{x y:Int}(hx:x∈KL P n k)(hm:m≤n)(hy:y∈fK P n x m):y∈KL P n (k+1):=by obtain⟨a,ha,rfl⟩:=z3j.1 hx;obtain⟨z,hz,rfl⟩:=j11.1 hy;rw[Int.toNat_natCast] at hz;refine z3j.2 ⟨z,?_,rfl⟩;rw[q8a,List.mem_flatMap];refine⟨a,ha,?_⟩;obtain⟨c,hc,e⟩:=yy0.1 hz;obtain⟨h1,h2⟩:=yy5.1 hc;exact yy0.2 ⟨c,yy5.2 ⟨yyr.2 (yxa (yyr.1 h1) hm),h2⟩,e⟩
def KL_bd{x:Int}(hx:x∈KL P n k):∃ a:Nat,x=(a:Int)∧a<2 ^ n:=by obtain⟨a,ha,rfl⟩:=z3j.1 hx;exact⟨a,rfl,(z4s ha).1⟩
def fK_self:(x:Int)∉fK P n (x:Int) m:=fun h=>by
 obtain⟨z,hz,e⟩:=j11.1 h;rw[Int.toNat_natCast] at hz;have:x=z:=by omega
 subst this;exact stp_not P n x m hz
def fK_succ(x m:Nat):fK P n (x:Int) (m+1)=if okx P n x m=true then fK P n (x:Int) m++[((x ||| 2 ^ m:Nat):Int)] else fK P n (x:Int) m:=by
 unfold fK;rw[Int.toNat_natCast,z5o];split
 ·rw[yx2];rfl
 ·rfl
def fK_len(p:Int)(m:Nat):(fK P n p m).length≤m:=by unfold fK stp;rw[yxd,yxd];exact Nat.le_trans (yx1 ..) (by simp)
def KL_len(k:Nat):(KL P n k).length=(lvl P n k).length:=by unfold KL;rw[yxd,z2h,yxd]
def q9r(m:Nat):∀ l:List Nat,(l.map Int.ofNat).count (m:Int)=l.count m
 |[]=>rfl
 |a::l=>by
  rw[yy6,List.count_cons,List.count_cons,q9r m l];by_cases h:a=m
  ·subst h;simp
  ·have h2:¬ Int.ofNat a=(m:Int):=fun e=>h (by have:=Int.ofNat.inj e;exact this);rw[if_neg (by simpa using h2),if_neg (by simpa using h)]
def KL_all:(KL P n n).count ((2 ^ n-1:Nat):Int)=(lvl P n n).length:=by rw[← kb_all];unfold KL;exact q9r _ _
def mix_le(L:List Int)(f:Int→List Int)(m:Nat)(hf:∀ a,(f a).length≤m)(done:List Int)(p:Int):mixC L f done p≤L.length+m*L.length:=by unfold mixC;have h1:=List.count_le_length (a:=p) (l:=L.filter fun y=>decide (y∉done));have h2:=yx1 (fun y=>decide (y∉done)) L;have h3:=List.count_le_length (a:=p) (l:=(L.filter fun y=>decide (y∈done)).flatMap f);have h4:=z0y hf (L.filter fun y=>decide (y∈done));have h5:=Nat.mul_le_mul_left m (yx1 (fun y=>decide (y∈done)) L);omega
def ten_pow(hn:n≤10)(hk:k≤9):n ^ k≤1000000000:=by
 calc n ^ k≤10 ^ k:=Nat.pow_le_pow_left hn k
  _≤10 ^ 9:=yxy (by decide) hk
  _=1000000000:=rfl
def cm_zero(P:Nat→Nat→Bool)(n:Nat):CM (kt:=u64T) (fun p=>p∈KL P n 0) (mPut [] 0 (0:Int) (1:Int)) 1 fun p=>(KL P n 0).count p:=by
 have h0:KL P n 0=[0]:=rfl;rw[h0];refine CM.congr (CM.add (kt:=u64T) (CM.nil (fun p:Int=>p∈([0]:List Int)) 0) (0:Int) 1 (by simp) (v:=1) (by simp)) fun p=>?_;show(if p=(0:Int) then 0+1 else 0)=([0]:List Int).count p;rw[List.count_cons,List.count_nil];by_cases h:p=0
 ·rw[if_pos h,h];rfl
 ·rw[if_neg h,if_neg (by simpa using fun e=>h e.symm)]
def Far.keys{kt:Ty}[DecidableEq kt.den]{es done:List (shE kt)}(hw:MWF es clk)(h:Far es done):(done.map fun e=>e.1).Nodup:=by obtain⟨rest,h⟩:=h.rest;have h1:=(h.map fun e:shE kt=>e.1).nodup_iff.2 hw.nk;rw[yx2] at h1;exact(List.nodup_append.1 h1).1
def keys_len(hn:n≤10){z:List Int}(hz:z.Nodup)(h:∀ x∈z,x∈KL P n k):z.length≤1024:=by
 have:=nodup_sub (a:=(List.range 1024).map Int.ofNat) hz fun x hx=>by obtain⟨a,rfl,ha⟩:=KL_bd (h x hx);exact yy0.2 ⟨a,yyr.2 (yxa ha (yxy (by decide) hn)),rfl⟩
 simpa using this
abbrev dwT:Ty:=.cons (.int .i64) .nil
abbrev DwD:=Int×Unit
abbrev keyD(x:Nat):DwD:=((x:Int),())
instance decD:DecidableEq dwT.den:=inferInstanceAs (DecidableEq (Int×Unit))
instance (priority:=2000) beqD:BEq DwD:=@instBEqOfDecidableEq dwT.den decD
instance (priority:=2000) lawD:LawfulBEq DwD:=inferInstanceAs (@LawfulBEq dwT.den (@instBEqOfDecidableEq dwT.den decD))
def KDr(P:Nat→Nat→Bool)(n k:Nat):List DwD:=(kb P n k).map keyD
def fD(P:Nat→Nat→Bool)(n:Nat)(p:DwD)(m:Nat):List DwD:=(stp P n p.1.toNat m).map keyD
def KDr_succ(k:Nat):KDr P n (k+1)=(KDr P n k).flatMap fun p=>fD P n p n:=by unfold KDr fD;rw[q8a,List.map_flatMap,List.flatMap_map];rfl
def KDr_mem{p:DwD}:p∈KDr P n k↔∃ x∈kb P n k,p=keyD x:=by unfold KDr;rw[yy0];exact⟨fun⟨x,h1,h2⟩=>⟨x,h1,h2.symm⟩,fun⟨x,h1,h2⟩=>⟨x,h1,h2.symm⟩⟩
def z6q(h:keyD x=keyD y):x=y:=by have:=congrArg Prod.fst h;simp only at this;omega
def fD_succ(x m:Nat):fD P n (keyD x) (m+1)=if okx P n x m=true then fD P n (keyD x) m++[keyD (x ||| 2 ^ m)] else fD P n (keyD x) m:=by
 unfold fD;rw[show(keyD x).1.toNat=x from Int.toNat_natCast x,z5o];split
 ·rw[yx2];rfl
 ·rfl
def fD_len(p:DwD)(m:Nat):(fD P n p m).length≤m:=by unfold fD stp;rw[yxd,yxd];exact Nat.le_trans (yx1 ..) (by simp)
def KDr_len(k:Nat):(KDr P n k).length=(lvl P n k).length:=by unfold KDr;rw[yxd,z2h,yxd]
def z21(m:Nat):∀ l:List Nat,(l.map keyD).count (keyD m)=l.count m
 |[]=>rfl
 |a::l=>by
  rw[yy6,List.count_cons,List.count_cons,z21 m l];by_cases h:a=m
  ·subst h;simp
  ·have h2:¬ keyD a=keyD m:=fun e=>h (z6q e);rw[if_neg (by simpa using h2),if_neg (by simpa using h)]
def KDr_all:(KDr P n n).count (keyD (2 ^ n-1))=(lvl P n n).length:=by rw[← kb_all];unfold KDr;exact z21 _ _
def or_pos:x ||| 2 ^ c≠0:=fun h=>by
 have:(x ||| 2 ^ c).testBit c=true:=by rw[Nat.testBit_or,Nat.testBit_two_pow];simp
 rw[h] at this;simp at this
def KDr_zero:keyD 0∉KDr P n (k+1):=fun h=>by obtain⟨a,ha,e⟩:=KDr_mem.1 h;have e:=z6q e;subst e;rw[q8a,List.mem_flatMap] at ha;obtain⟨x,_,hx⟩:=ha;obtain⟨c,_,hc⟩:=yy0.1 hx;exact or_pos hc
def cm_dzero(P:Nat→Nat→Bool)(n:Nat):CM (kt:=dwT) (fun p=>∃ a:Nat,p=keyD a∧a<2 ^ n) (mPut [] 0 (keyD 0) (1:Int)) 1 fun p=>(KDr P n 0).count p:=by
 have h0:KDr P n 0=[keyD 0]:=rfl;rw[h0];refine CM.congr (CM.add (kt:=dwT) (CM.nil (fun p:DwD=>∃ a:Nat,p=keyD a∧a<2 ^ n) 0) (keyD 0) 1 ⟨0,rfl,Nat.two_pow_pos n⟩ (v:=1) (by simp)) fun p=>?_;show(if p=keyD 0 then 0+1 else 0)=([keyD 0]:List DwD).count p;rw[List.count_cons,List.count_nil];by_cases h:p=keyD 0
 ·rw[if_pos h,h];simp
 ·rw[if_neg h,if_neg (by simpa using fun e=>h e.symm)]
def j2a(hn:n≤8)(hk:k≤8):n ^ k≤16777216:=by
 calc n ^ k≤8 ^ k:=Nat.pow_le_pow_left hn k
  _≤8 ^ 8:=yxy (by decide) hk
  _=16777216:=rfl
end Ox.Gl
namespace Go.Proofs.YtjjkdjbbkagclaaGreatDoor
open Go Go.RowKit Ox Ox.St Ox.Gl
attribute [local irreducible] JC JL JK JW
def eqD:EqT Tryz.prog dwT 153:=.of (by decide +kernel)
set_option maxRecDepth 4096 in
def mpD:MapT Tryz.prog dwT (.int .i64) 154 153 2:=.of (by rfl) (by decide +kernel)
def posS(ps:List (List Int))(l:List Int)(i k:Nat):Bool:=decide (i<k)&&!canB ps (l.getD i 0) (l.getD k 0)
def okx_w{ps:List (List Int)}(hi:i<m):okx (posS ps l) m x i=(!x.testBit i&&decide (wN ps l x (l.getD i 0) i=0)):=by
 unfold okx;congr 1;rw[yyz,yy1,decide_eq_true_iff];unfold wN;rw[List.length_eq_zero_iff,List.filter_eq_nil_iff];unfold wB posS;constructor
 ·intro h k hk hc;have hk:=yyr.1 hk;have:=h k (yyr.2 (by omega));rw[yyd,yyx,yyx] at hc;rw[hc.1,hc.2,decide_eq_true hk] at this;cases this
 ·intro h a ha;by_cases hk:a<i
  ·have:=h a (yyr.2 hk);rw[decide_eq_true hk]
   revert this
   generalize x.testBit a=b1;generalize canB ps (l.getD a 0) (l.getD i 0)=b2;cases b1<;>cases b2<;>simp
  ·rw[decide_eq_false hk];rfl
def xdiv(x k:Nat)(hx:x<65536):(0:Int)≤((x:Nat):Int) / 2 ^ (Int.toNat (k:Int))∧((x:Nat):Int) / 2 ^ (Int.toNat (k:Int))≤65536:=by rw[Int.toNat_natCast,show((x:Nat):Int) / 2 ^ k=((x / 2 ^ k:Nat):Int) by push_cast;rfl];have:=Nat.div_le_self x (2 ^ k);generalize x / 2 ^ k=z at this ⊢;omega
abbrev EnD:=Ent dwT (.int .i64)
abbrev QD(m:Nat):DwD→Prop:=fun p=>∃ a:Nat,p=keyD a∧a<2 ^ m
variable{n:Int}
set_option maxRecDepth 20000 in
set_option maxHeartbeats 4000000 in
def fn47{ps:List (List Int)}(hb:benE n ps=0)(hl:∀ s∈l,s≠0∧lnS s<8)(hl8:l.length≤8) :
  Ox.Fn Tryz.prog 47 (.acons (vTb n ps) (.acons (vL l) .anil)) (·=vI ((lvl (posS ps l) l.length l.length).length:Nat)):=by
 refine Ox.Fn.intro xok Tryz.func47 rfl Tryz.call47 (yyc rfl) (fun E M0 up=>?_);refine z9 ?_;have hres:=KDr_all (P:=posS ps l) (n:=l.length);have hllen:=fun k (hk:k≤l.length)=>Nat.le_trans (Nat.le_of_eq (KDr_len (P:=posS ps l) (n:=l.length) k)) (Nat.le_trans (q75 k) (j2a hl8 (k:=k) (by omega)));have hzero:=fun k=>KDr_zero (P:=posS ps l) (n:=l.length) (k:=k);have hstart:=cm_dzero (posS ps l) l.length;have hsucc:=fun k=>KDr_succ (P:=posS ps l) (n:=l.length) k;generalize hKD:KDr (posS ps l) l.length=KD at hres hllen hzero hstart hsucc;refine zK4 ?_;refine JK.loop (σ:=Nat×List EnD×Nat) (fun q=>⟨[(0,vTb n ps),(1,vL l),(5,.lf (.mp 0)),(18,vI l.length),(19,vI (q.1:Int))],[(0,.map dwT (.int .i64) q.2.1 q.2.2)],1⟩)
  (fun q=>q.1≤l.length∧CM (kt:=dwT) (QD l.length) q.2.1 q.2.2 fun p=>(KD q.1).count p) (fun q=>l.length-q.1)
  (0,mPut [] 0 (keyD 0) (1:Int),1) ⟨yyu _,hstart⟩ (by exact zJ) fun⟨i,es,clk⟩ ⟨hi,hcm⟩=>?_
 dsimp only at hi hcm ⊢;refine zK4 ?_;refine z5 rfl (fun hc=>?_) (fun hc=>?_)
 ·replace hc:=zC hc;have hi':i<l.length:=by omega
  refine zK4 ?_;refine z7j (σ:=List EnD×List EnD×Nat×Nat) (τ:=List EnD×Nat) (fun q=>⟨[(0,vTb n ps),(1,vL l),(5,.lf (.mp 0)),(6,.lf (.mp 1)),(18,vI l.length),(19,vI (i:Int)),(23,.lf (.itr 2))],
    [(0,.map dwT (.int .i64) es clk),(1,.map dwT (.int .i64) q.2.1 q.2.2.1),(2,.iter 0 clk (q.1.map (·.2.2)) q.2.2.2)],3⟩)
   (fun q=>Far es q.1∧clk≤q.2.2.2∧CM (kt:=dwT) (QD l.length) q.2.1 q.2.2.1 fun p=>((bag q.1).flatMap fun p=>fD (posS ps l) l.length p l.length).count p) (fun q=>mLeft es (q.1.map (·.2.2)))
   ([],[],0,clk) ⟨Far.nil es,yym _,(CM.nil _ 0).congr fun p=>rfl⟩ (by exact zJ)
   (fun q=>⟨[(0,vTb n ps),(1,vL l),(5,.lf (.mp 0)),(6,.lf (.mp 1)),(18,vI l.length),(19,vI (i:Int))],
    [(0,.map dwT (.int .i64) es clk),(1,.map dwT (.int .i64) q.1 q.2)],2⟩) (fun q=>CM (kt:=dwT) (QD l.length) q.1 q.2 fun p=>(KD (i+1)).count p) (fun⟨es2,clk2⟩ hcm2=>?_) (fun⟨done,es2,clk2,last⟩ ⟨hfar,hlast,hcm2⟩=>?_)
  ·dsimp only at hcm2 ⊢;have hz0:=hzero i;refine zK4 ?_;refine⟨(i+1,mDel es2 (keyD 0),clk2),by exact zJ,⟨by dsimp only;omega,(CM.del hcm2 (keyD 0)).congr fun p=>?_⟩,by dsimp only;omega⟩;dsimp only;by_cases e:p=keyD 0
   ·rw[if_pos e,e,List.count_eq_zero.2 hz0]
   ·rw[if_neg e]
  ·dsimp only at hfar hlast hcm2 ⊢;have hw:=hcm2.wf;refine zK4 ?_;refine j3y rfl rfl rfl hcm.wf.lt hlast rfl (fun hall=>?_) (fun e he hes=>?_)
   ·refine zK4 ?_;refine z5 rfl (fun hc=>absurd hc (by decide)) (fun _=>?_);refine zK4 ?_;refine⟨(es2,clk2),by exact zJ,hcm2.congr fun p=>?_⟩;rw[hsucc];exact(List.Perm.flatMap_right _ ((List.Perm.flatMap_right _ (hfar.all hcm.wf hall)).trans (z69 hcm))).count_eq p
   ·have hfar':=hfar.snoc hcm.wf he hes;have hlt:=z0o he hes;obtain⟨e1,many,born,rfl⟩:∃ (e1:DwD) (many:Int) (born:Nat),e=(e1,many,born):=⟨e.1,e.2.1,e.2.2,rfl⟩;obtain⟨x,rfl,hx⟩:∃ a:Nat,e1=keyD a∧a<2 ^ l.length:=hcm.ok _ he;have hnn:0≤many:=hcm.nn _ he;have he':=he;have hx8:x<256:=yxa hx (yxy (by decide) hl8);refine zK4 ?_;refine z5 rfl (fun _=>?_) (fun hc=>absurd hc (by decide));refine zK4 ?_;refine j3z rfl rfl rfl rfl rfl he hcm.wf rfl ?_;refine zK4 ?_;have hfs:=fun q=>far_step (done:=done) (p:=keyD x) (many:=many) (born:=born) (f:=fun p=>fD (posS ps l) l.length p l.length) q;refine JK.loop (σ:=Nat×List EnD×Nat) (fun q=>⟨[(0,vTb n ps),(1,vL l),(5,.lf (.mp 0)),(6,.lf (.mp 1)),(7,.lf (.optr 3 [])),(8,vI many),(18,vI l.length),(19,vI (i:Int)),(23,.lf (.itr 2)),(29,vL l),(30,vI l.length),(31,vI (q.1:Int))],
     [(0,.map dwT (.int .i64) es clk),(1,.map dwT (.int .i64) q.2.1 q.2.2),(2,.iter 0 clk (done.map (·.2.2)++[born]) clk),(3,.cell dwT (vDr x))],4⟩)
     (fun q=>q.1≤l.length∧CM (kt:=dwT) (QD l.length) q.2.1 q.2.2 fun p=>((bag done).flatMap fun p=>fD (posS ps l) l.length p l.length).count p+many.toNat*(fD (posS ps l) l.length (keyD x) q.1).count p) (fun q=>l.length-q.1)
     (0,es2,clk2) ⟨yyu _,hcm2.congr fun p=>by simp[fD,stp]⟩ (by exact zJ) fun⟨k,es3,clk3⟩ ⟨hk,hcm3⟩=>?_
    dsimp only at hk hcm3 ⊢;refine zK4 ?_;refine z5 rfl (fun hd=>?_) (fun hd=>?_)
    ·replace hd:=zC hd;have hk':k<l.length:=by omega
     obtain⟨l0,l8⟩:=hl (l.getD k 0) (by rw[k8 l hk'];exact yyy hk');have c89:=fn89 hb hl (by omega) (x:=x) (i:=k) (by omega) l0 l8 (by omega);have hok:=okx_w (ps:=ps) (l:=l) (x:=x) hk';have hfsu:=fD_succ (P:=posS ps l) (n:=l.length) x k;have hbt:=z1b x k;have hxd:=xdiv x k (by omega);have hz:l.getD (Int.toNat (k:Int)) (Ty.int .i64).dflt=l.getD k 0:=rfl;rw[← hz] at c89;rw[hz] at c89;have hwl:wN ps l x (l.getD k 0) k≤8:=by unfold wN;have:=yx1 (wB ps l x (l.getD k 0)) (List.range k);simp at this ⊢;omega
     generalize hlk:l.getD k 0=y at c89 hz hok hwl;generalize wN ps l x y k=wn at c89 hok hwl;have hV:(bif (((((((x:Nat):Int) / 2 ^ (Int.toNat (k:Int))).toNat &&& ((1:Int)).toNat:Nat):Int))==0) then((wn:Int)==0) else false)=okx (posS ps l) l.length x k:=by
      rw[hbt,hok];have hwz:((wn:Int)==0)=decide (wn=0):=by rw[yyz,beq_iff_eq,decide_eq_true_iff];omega
      rw[hwz];cases x.testBit k<;>simp
     refine zK26 ?_;rw[hz];refine zK26 ?_;refine z5 rfl (fun he=>?_) (fun he=>?_)
     ·have hk2:=hV.symm.trans he;rw[if_pos hk2] at hfsu;have hqb:x ||| 2 ^ k<2 ^ l.length:=Nat.or_lt_two_pow hx (Nat.pow_lt_pow_right (by decide) hk')
      have hqt:(((((x:Nat):Int).toNat ||| ((1:Int)*2 ^ (Int.toNat (k:Int))).toNat:Nat):Int),())=keyD (x ||| 2 ^ k):=by rw[Int.toNat_natCast,Int.toNat_natCast,q3q]
      have hpc:=q07 (n:=k) (by omega);have g0:=hllen i (by omega);have g4:=(z69 hcm).length_eq;have hmn:many≤16777216:=by have q1:(many:Int)=_:=(o0 hcm.wf he').symm.trans (hcm.eq (keyD x));have q2:=List.count_le_length (a:=keyD x) (l:=KD i);omega
      have hcb:∀ Q:DwD,(((bag done).flatMap fun p=>fD (posS ps l) l.length p l.length).count Q+many.toNat*(fD (posS ps l) l.length (keyD x) k).count Q:Nat)≤300000000:=fun Q=>by have q1:=List.count_le_length (a:=Q) (l:=(bag done).flatMap fun p=>fD (posS ps l) l.length p l.length);have q2:=z0y (m:=8) (fun p=>Nat.le_trans (fD_len (P:=posS ps l) (n:=l.length) p l.length) hl8) (bag done);have q3:=hfar.len;have q4:=List.count_le_length (a:=Q) (l:=fD (posS ps l) l.length (keyD x) k);have q5:=fD_len (P:=posS ps l) (n:=l.length) (keyD x) k;have q6:many.toNat*(fD (posS ps l) l.length (keyD x) k).count Q≤16777216*8:=Nat.mul_le_mul (by omega) (by omega);omega
      have hw3:=hcm3.wf;have hcbq:=hcb (keyD (x ||| 2 ^ k));have hq0:(mGet es3 (keyD (x ||| 2 ^ k)) (Ty.dflt (.int .i64)):Int)=_:=hcm3.eq (keyD (x ||| 2 ^ k));have hadd:=hcm3.add (keyD (x ||| 2 ^ k)) many.toNat ⟨_,rfl,hqb⟩ (v:=(mGet es3 (keyD (x ||| 2 ^ k)) (Ty.dflt (.int .i64)):Int)+many) (by rw[hq0];omega);have hq1:(0:Int)≤mGet es3 (keyD (x ||| 2 ^ k)) (Ty.dflt (.int .i64))∧(mGet es3 (keyD (x ||| 2 ^ k)) (Ty.dflt (.int .i64)):Int)+many≤500000000:=by rw[hq0];dsimp only[Ty.den];omega
      have hq1':(0:Int)≤mGet (mEnt es3 clk3 (keyD (x ||| 2 ^ k))) (keyD (x ||| 2 ^ k)) (Ty.dflt (.int .i64))∧(mGet (mEnt es3 clk3 (keyD (x ||| 2 ^ k))) (keyD (x ||| 2 ^ k)) (Ty.dflt (.int .i64)):Int)+many≤500000000:=by rw[z6f hw3];exact hq1
      have hge:=z6f (x:=keyD (x ||| 2 ^ k)) hw3;rw[← hqt] at hq1 hq1' hadd hge;refine q0z xk (Tryz.f47.body.getD .skip) ⟨[(0,vTb n ps),(1,vL l),(5,.lf (.mp 0)),(6,.lf (.mp 1)),(7,.lf (.optr 3 [])),(8,vI many),(18,vI l.length),(19,vI (i:Int)),(23,.lf (.itr 2)),(29,vL l),(30,vI l.length),(31,vI (k:Int))],
     [(0,.map dwT (.int .i64) es clk),(1,.map dwT (.int .i64) (mPut es3 clk3 (((((x:Nat):Int).toNat ||| ((1:Int)*2 ^ (Int.toNat (k:Int))).toNat:Nat):Int),()) ((mGet es3 (((((x:Nat):Int).toNat ||| ((1:Int)*2 ^ (Int.toNat (k:Int))).toNat:Nat):Int),()) (Ty.dflt (.int .i64)):Int)+many)) (mClk es3 clk3 (((((x:Nat):Int).toNat ||| ((1:Int)*2 ^ (Int.toNat (k:Int))).toNat:Nat):Int),()))),(2,.iter 0 clk (done.map (·.2.2)++[born]) clk),(3,.cell dwT (vDr x))],4⟩ rfl 13 rfl ?_ ?_
      ·(refine q7 0 xk rfl rfl (q7 1 xk rfl rfl (q7 3 xk rfl rfl (q7 4 xk rfl rfl (q7 8 xk rfl rfl (z7 2 xk rfl rfl (z7 5 xk rfl rfl (zU 6 xk rfl rfl ?_)))))));refine zK12 ?_;refine q8 ?_;refine j9 7 [10] xk ?_ ?_;exact zS;refine(BrF.one rfl rfl ?_ (BrF.one rfl rfl ?_ BrF.nil));(· refine zK12 ?_;refine q8 ?_;refine q7 9 xk rfl rfl (zU 10 xk rfl rfl ?_);refine zK12 ?_;refine q8 ?_;refine q7 11 xk rfl rfl (zU 12 xk rfl rfl ?_);refine zK12 ?_;refine q8 ?_;refine w7 xk StF.nil ?_;((refine q6q (by conv=>lhs;reduce) ?_ ?_ ?_ ?_ rfl<;>(repeat' (first|exact trivial|exact rfl|refine And.intro ?_ ?_|exact yyc rfl|refine q5y ?_|refine q5x ?_|(refine congrArg (fun z:Int=>some (AV.val (.int .i64) z)) ?_;push_cast;omega)|exact congrArg (fun z:Int=>some (HO.map dwT (.int .i64) (mPut es3 clk3 (((((x:Nat):Int).toNat ||| ((1:Int)*2 ^ (Int.toNat (k:Int))).toNat:Nat):Int),()) z) (mClk es3 clk3 (((((x:Nat):Int).toNat ||| ((1:Int)*2 ^ (Int.toNat (k:Int))).toNat:Nat):Int),())))) (congrArg (fun z:Int=>z+many) hge))))));(· refine zK12 ?_;refine q8 ?_;refine q7 11 xk rfl rfl (zU 7 xk rfl rfl ?_);refine zK12 ?_;refine q8 ?_;refine q7 9 xk rfl rfl (zU 12 xk rfl rfl ?_);refine zK12 ?_;refine q8 ?_;refine w7 xk StF.nil ?_;((refine q6q (by conv=>lhs;reduce) ?_ ?_ ?_ ?_ rfl<;>(repeat' (first|exact trivial|exact rfl|refine And.intro ?_ ?_|exact yyc rfl|refine q5y ?_|refine q5x ?_|(refine congrArg (fun z:Int=>some (AV.val (.int .i64) z)) ?_;push_cast;omega)|exact congrArg (fun z:Int=>some (HO.map dwT (.int .i64) (mPut es3 clk3 (((((x:Nat):Int).toNat ||| ((1:Int)*2 ^ (Int.toNat (k:Int))).toNat:Nat):Int),()) z) (mClk es3 clk3 (((((x:Nat):Int).toNat ||| ((1:Int)*2 ^ (Int.toNat (k:Int))).toNat:Nat):Int),())))) (congrArg (fun z:Int=>z+many) hge)))))))
      rw[hqt] at hadd ⊢;generalize mPut es3 clk3 (keyD (x ||| 2 ^ k)) ((mGet es3 (keyD (x ||| 2 ^ k)) (Ty.dflt (.int .i64)):Int)+many)=es4 at hadd ⊢;generalize mClk es3 clk3 (keyD (x ||| 2 ^ k))=clk4 at hadd ⊢;refine zK4 ?_;refine⟨(k+1,es4,clk4),by exact zJ,⟨by dsimp only;omega,hadd.congr fun p=>?_⟩,by dsimp only;omega⟩;dsimp only;rw[hfsu,List.count_append,Nat.mul_add,← Nat.add_assoc];exact cnt1 _ _ _ _
     ·have hk2:=hV.symm.trans he;rw[if_neg (by rw[hk2];simp)] at hfsu;refine zK4 ?_;refine⟨(k+1,es3,clk3),by exact zJ,⟨by dsimp only;omega,hcm3.congr fun p=>?_⟩,by dsimp only;omega⟩;dsimp only;rw[hfsu]
    ·replace hd:=zC hd;obtain rfl:k=l.length:=by omega
     refine zK4 ?_;refine⟨(done++[(keyD x,many,born)],es3,clk3,clk),by(refine q6q (by conv=>lhs;reduce) ?_ ?_ ?_ ?_ rfl<;>(repeat' (first|exact trivial|exact rfl|refine And.intro ?_ ?_|exact yyc rfl|refine q5y ?_|refine q5x ?_|(refine congrArg (fun z:Int=>some (AV.val (.int .i64) z)) ?_;push_cast;omega)|(simp)))),⟨hfar',yym _,hcm3.congr fun p=>(hfs p).symm⟩,by simpa using hlt⟩
 ·replace hc:=zC hc;obtain rfl:i=l.length:=by omega
  have hget:(mGet es (keyD (2 ^ l.length-1)) (Ty.dflt (.int .i64)):Int)=(((lvl (posS ps l) l.length l.length).length:Nat):Int):=by rw[← hres];exact hcm.eq _
  have hpc:=q07 (n:=l.length) (by omega);have hfull:((2:Int) ^ l.length-1,())=keyD (2 ^ l.length-1):=by unfold keyD;have:=hpc.2.2;have h2:=Nat.two_pow_pos l.length;rw[yyp];refine⟨?_,rfl⟩;omega
  generalize (lvl (posS ps l) l.length l.length).length=G at hget ⊢;refine zK4 ?_;refine JK.loop (σ:=List EnD×Nat) (fun q=>⟨[(11,.lf (.optr 1 [])),(74,.lf (.itr 2))],[(0,.map dwT (.int .i64) es clk),(1,.cell dwT (.val dwT ((1:Int)*2 ^ (Int.toNat ((l.length:Nat):Int))-1,()))),(2,.iter 0 clk (q.1.map (·.2.2)) q.2)],3⟩)
   (fun q=>(Far es q.1∧clk≤q.2)∧∀ e∈q.1,e.1≠keyD (2 ^ l.length-1)) (fun q=>mLeft es (q.1.map (·.2.2))) ([],clk) ⟨⟨Far.nil es,yym _⟩,fun _ h=>absurd h yxg⟩ (by exact zJ) fun⟨done,last⟩ ⟨⟨hfar,hlast⟩,hno⟩=>?_
  dsimp only at hfar hlast hno ⊢;have hkey:((1:Int)*2 ^ (Int.toNat ((l.length:Nat):Int))-1,())=keyD (2 ^ l.length-1):=by rw[Int.one_mul,Int.toNat_natCast];exact hfull
  refine zK4 ?_;refine j3y rfl rfl rfl hcm.wf.lt hlast rfl (fun hall=>?_) (fun e he hes=>?_)
  ·have hp:=hfar.all hcm.wf hall;have hG:G=0:=by have h0:(mGet es (keyD (2 ^ l.length-1)) (Ty.dflt (.int .i64)):Int)=(0:Int):=t9 fun e he k=>hno e (hp.mem_iff.2 he) k;have h1:(G:Int)=0:=hget.symm.trans h0;omega
   refine zK4 ?_;refine z5 rfl (fun hc=>absurd hc (by decide)) (fun _=>?_);refine zK4 ?_;refine⟨.inl rfl,_,_,rfl,trivial,?_⟩;rw[hG];rfl
  ·have hfar':=hfar.snoc hcm.wf he hes;have hlt:=z0o he hes;obtain⟨p,many,born,rfl⟩:∃ (p:DwD) (many:Int) (born:Nat),e=(p,many,born):=⟨e.1,e.2.1,e.2.2,rfl⟩;have hme:(mGet es p (Ty.dflt (.int .i64)):Int)=many:=o0 hcm.wf he;obtain⟨x,rfl,hx⟩:∃ a:Nat,p=keyD a∧a<2 ^ l.length:=hcm.ok _ he;refine zK4 ?_;refine z5 rfl (fun _=>?_) (fun hc=>absurd hc (by decide));refine zK4 ?_;refine j3z rfl rfl rfl rfl rfl he hcm.wf rfl ?_;refine zK4 ?_;refine z5 rfl (fun hk=>?_) (fun hk=>?_)
   ·have hk2:=y5.1 hk;refine zK4 ?_;refine⟨.inl rfl,_,_,rfl,trivial,?_⟩;refine congrArg vI ?_;have hk3:keyD x=keyD (2 ^ l.length-1):=hk2.trans hkey;rw[hk3] at hme;exact hme.symm.trans hget
   ·refine zK4 ?_;refine⟨(done++[(keyD x,many,born)],clk),?_,⟨⟨hfar',yym _⟩,fun e he'=>?_⟩,by simpa using hlt⟩
    ·(refine q6q (by conv=>lhs;reduce) ?_ ?_ ?_ ?_ rfl<;>(repeat' (first|exact trivial|exact rfl|refine And.intro ?_ ?_|exact yyc rfl|refine q5y ?_|refine q5x ?_|(refine congrArg (fun z:Int=>some (AV.val (.int .i64) z)) ?_;push_cast;omega)|(simp))))
    ·rcases yy4.1 he' with h|h
     ·exact hno e h
     ·rw[yyw.1 h];intro e;have:=hk.symm.trans (y5.2 (e.trans hkey.symm));cases this
open Ox.St in
set_option maxHeartbeats 1000000 in
def fn20{ps:List (List Int)}(h:lstE n ps l=0)(hF:okS (shF ps l))(h8:(shF ps l).length≤8):Ox.Fn Tryz.prog 20 (.acons (vBe n ps) (.acons (vL l) .anil)) (·=.tup (.acons (vI ((lvl (posS ps (shF ps l)) (shF ps l).length (shF ps l).length).length:Nat)) (.acons (vI 0) .anil))):=by
 refine Ox.Fn.intro xok Tryz.func20 rfl Tryz.call20 (yyc rfl) (fun E M0 up=>?_);refine z9 ?_;obtain⟨hb,h60,_⟩:=q58 h;have c27:=fn45 n ps (l::List.nil) hb (fun x hx=>by rw[yyw.1 hx];exact h);have c29:=fn46 hb (q9j h) h60;change Ox.Fn Tryz.prog 46 _ (·=vL (shF ps l)) at c29;have c47:=fn47 hb hF h8;generalize shF ps l=F at c29 c47 h8 ⊢;generalize (lvl (posS ps F) F.length F.length).length=G at c47 ⊢;refine zK27 ?_
 (refine q81 [1] [1,10,12] rfl ?_)
 refine zK27 ?_;refine z5 rfl (fun h=>absurd h (by decide)) (fun _=>?_)
 (repeat (first|refine zs rfl ?_|refine zg rfl rfl rfl ?_|refine v6 ?_|refine w8 ?_|refine zmi mpD rfl rfl rfl rfl ?_|refine zmd mpD rfl rfl rfl ?_|refine zmr mpD rfl rfl rfl ?_|refine zmm mpD rfl ?_|refine zeq eqD rfl rfl rfl ?_|refine zc rfl (c29) rfl rfl ?_|refine ze rfl (c29) rfl ?_|refine zk rfl rfl (fun _=>c29) rfl rfl ?_))
 refine z5 rfl (fun h=>by simp at h;omega) (fun _=>?_)
 (repeat (first|refine zs rfl ?_|refine zg rfl rfl rfl ?_|refine v6 ?_|refine w8 ?_|refine zmi mpD rfl rfl rfl rfl ?_|refine zmd mpD rfl rfl rfl ?_|refine zmr mpD rfl rfl rfl ?_|refine zmm mpD rfl ?_|refine zeq eqD rfl rfl rfl ?_|refine zc rfl (c47) rfl rfl ?_|refine ze rfl (c47) rfl ?_|refine zk rfl rfl (fun _=>c47) rfl rfl ?_))
 refine⟨.inl rfl,_,_,rfl,trivial,?_⟩;rfl
end Go.Proofs.YtjjkdjbbkagclaaGreatDoor
namespace Ox.Gl
def insD:Nat→List Int→List Int
 |0,l=>l
 |j+1,l=>if l.getD (j+1) 0<l.getD j 0 then insD j (swp l (j+1) j) else l
def srtD:Nat→List Int→List Int
 |0,l=>l
 |i+1,l=>insD (i+1) (srtD i l)
def z6r:∀ (j:Nat) (l:List Int),(insD j l).length=l.length
 |0,l=>rfl
 |j+1,l=>by unfold insD;split;rw[z6r,q97];rfl
def q23:∀ (i:Nat) (l:List Int),(srtD i l).length=l.length
 |0,l=>rfl
 |i+1,l=>by rw[srtD,z6r,q23]
def z2k:∀ {j:Nat} {l:List Int},j<l.length→(insD j l).Perm l
 |0,l,_=>List.Perm.refl _
 |j+1,l,h=>by
  unfold insD;split
  ·exact(z2k (by rw[q97];omega)).trans (swp_perm h (by omega))
  ·exact List.Perm.refl _
def z1v:∀ {i:Nat} {l:List Int},i<l.length→(srtD i l).Perm l
 |0,l,_=>List.Perm.refl _
 |i+1,l,h=>(z2k (by rw[q23];exact h)).trans (z1v (by omega))
def z8z(hi:i<l.length)(hk:k<l.length):(swp l i k).getD a 0=if a=k then l.getD i 0 else if a=i then l.getD k 0 else l.getD a 0:=by
 unfold swp;have e1:l.getD k default=l.getD k 0:=rfl;have e2:l.getD i default=l.getD i 0:=rfl;rw[e1,e2];generalize l.getD k 0=x;generalize l.getD i 0=y;simp only[yyg,List.getElem?_set,List.length_set];by_cases h1:k=a
 ·subst h1;simp[hk]
 ·rw[if_neg h1,if_neg (show ¬ a=k from fun e=>h1 e.symm)];by_cases h2:i=a
  ·subst h2;simp[hi]
  ·rw[if_neg h2,if_neg (show ¬ a=i from fun e=>h2 e.symm)]
def get_of(h:a<l.length):l.getD a 0=l[a]:=by simp[List.getD,h]
def z6s{i:Nat}:∀ {j:Nat} {l:List Int},j≤i→i<l.length→(∀ a b,a<b→b≤i→b≠j→l.getD a 0≤l.getD b 0)→∀ a b,a<b→b≤i→(insD j l).getD a 0≤(insD j l).getD b 0
 |0,l,hj,hl,h,a,b,h1,h2=>h a b h1 h2 (by omega)
 |j+1,l,hj,hl,h,a,b,h1,h2=>by
  unfold insD;split
  ·rename_i hc;refine z6s (j:=j) (l:=swp l (j+1) j) (by omega) (by rw[q97];exact hl) (fun a b k1 k2 k3=>?_) a b h1 h2;rw[z8z (by omega) (by omega),z8z (by omega) (by omega)];rw[if_neg k3];by_cases e1:b=j+1
   ·subst e1;rw[if_pos rfl];by_cases e2:a=j
    ·rw[if_pos e2];omega
    ·rw[if_neg e2,if_neg (by omega)];exact h a j (by omega) (by omega) (by omega)
   ·rw[if_neg e1];by_cases e2:a=j
    ·rw[if_pos e2];exact h (j+1) b (by omega) k2 e1
    ·rw[if_neg e2];by_cases e3:a=j+1
     ·rw[if_pos e3];exact h j b (by omega) k2 e1
     ·rw[if_neg e3];exact h a b k1 k2 e1
  ·rename_i hc;by_cases e:b=j+1
   ·subst e;by_cases e2:a=j
    ·subst e2;omega
    ·have:=h a j (by omega) (by omega) (by omega);omega
   ·exact h a b h1 h2 e
def z5r:∀ {i:Nat} {l:List Int},i<l.length→∀ a b,a<b→b≤i→(srtD i l).getD a 0≤(srtD i l).getD b 0
 |0,l,_,a,b,h1,h2=>by omega
 |i+1,l,h,a,b,h1,h2=>by have ih:=z5r (i:=i) (l:=l) (by omega);exact z6s (i:=i+1) (j:=i+1) (l:=srtD i l) (yym _) (by rw[q23];exact h) (fun a b k1 k2 k3=>ih a b k1 (by omega)) a b h1 h2
def z3z(h:l≠[]):(srtD (l.length-1) l).Pairwise (·≤·):=by have hl:0<l.length:=List.length_pos_iff.2 h;rw[ywa];intro a b ha hb hab;rw[q23] at ha hb;have:=z5r (i:=l.length-1) (l:=l) (by omega) a b hab (by omega);rw[get_of (by rw[q23];exact ha),get_of (by rw[q23];exact hb)] at this;exact this
def z7o(hp:l.Perm ((List.range n).map Int.ofNat)):srtD (l.length-1) l=(List.range n).map Int.ofNat:=by
 by_cases h:l=[]
 ·subst h;have:=hp.length_eq;have:n=0:=by simpa using this.symm
  subst this;rfl
 ·exact j2x ((z1v (by have:=List.length_pos_iff.2 h;omega)).trans hp) (z3z h)
def z4d(hp:o.Perm ((List.range n).map Int.ofNat)):o.length=n∧(∀ x∈o,0≤x∧x<n)∧o.Nodup∧(∀ a:Nat,a<n→(a:Int)∈o):=by
 refine⟨by simpa using hp.length_eq,fun x hx=>?_,?_,fun a ha=>?_⟩
 ·obtain⟨k,h1,rfl⟩:=yy0.1 (hp.mem_iff.1 hx);have:=yyr.1 h1;simp only[Int.ofNat_eq_natCast];omega
 ·refine hp.nodup_iff.2 ?_;rw[List.nodup_iff_pairwise_ne,List.pairwise_map];exact(List.nodup_iff_pairwise_ne.1 List.nodup_range).imp fun {a b} h e=>h (Int.ofNat.inj e)
 ·exact hp.mem_iff.2 (yy0.2 ⟨a,yyr.2 ha,rfl⟩)
def ord_nat(hp:o.Perm ((List.range n).map Int.ofNat)):(o.map Int.toNat).Perm (List.range n):=by have:=hp.map Int.toNat;rw[List.map_map] at this;simpa[Function.comp_def] using this
variable {d:Int}{cs:List CoD}{ps:List (List Int)}
def isO(n:Nat)(o:List Int):Prop:=o.Perm ((List.range n).map Int.ofNat)
def sufB(d:Int)(cs:List CoD)(o:List Int)(i:Nat):Bool:=(List.range i).all fun k=>suB d (cs.getD (o.getD k 0).toNat coZ) k
def rulB(ps:List (List Int))(o:List Int):Bool:=decide ((o.map Int.toNat).Pairwise fun x y=>pG ps y x=false)
def cheG(d:Int)(cs:List CoD)(ps:List (List Int))(o:List Int):Int:=if sufB d cs o o.length=true then(if rulB ps o=true then 0 else 16) else 21
def z82(o:List Int)(i:Nat):sufB d cs o (i+1)=(sufB d cs o i&&suB d (cs.getD (o.getD i 0).toNat coZ) i):=by unfold sufB;rw[List.range_succ,List.all_append];simp
def z83{i j:Nat}(h:i≤j)(hs:sufB d cs o j=true):sufB d cs o i=true:=by unfold sufB at *;rw[yy1] at *;intro k hk;exact hs k (yyr.2 (yxa (yyr.1 hk) h))
def isO.get(h:isO n o)(hi:i<o.length):0≤o.getD i 0∧o.getD i 0<n:=by obtain⟨_,h2,_,_⟩:=z4d h;have:=h2 (o.getD i 0) (by rw[yyg,yyl hi];exact yyy hi);omega
def isO.len(h:isO n o):o.length=n:=(z4d h).1
def liesB(o:List Int)(i:Nat):Nat:=bitsQ ((o.take i).map Int.toNat)
def j08(hi:i<o.length):liesB o (i+1)=liesB o i ||| 2 ^ (o.getD i 0).toNat:=by unfold liesB;rw[yy2 hi,yx2,yy6,List.map_nil,q2l,yyg,yyl hi];rfl
def lies_lt(h:isO n o)(i:Nat):liesB o i<2 ^ n:=q7k fun c hc=>by obtain⟨x,hx,rfl⟩:=yy0.1 hc;obtain⟨_,h2,_,_⟩:=z4d h;have:=h2 x (List.mem_of_mem_take hx);omega
def z1y{bf:Nat→Nat}:∀ (q pre:List Nat),ruleP bf (bitsQ pre) q=true↔∀ i,i<q.length→bf (q.getD i 0) ^^^ (bf (q.getD i 0) &&& bitsQ (pre++q.take i))=0
 |[],pre=>by simp[ruleP]
 |c::q,pre=>by
  unfold ruleP;have e:bitsQ pre ||| 2 ^ c=bitsQ (pre++[c]):=(q2l pre c).symm
  rw[yyd,e,z1y q (pre++[c]),beq_iff_eq];constructor
  ·intro⟨h1,h2⟩ i hi;cases i with
   |zero=>simpa using h1
   |succ i=>have:=h2 i (by simpa using hi);simpa[yxm] using this
  ·intro h;refine⟨by simpa using h 0 (by simp),fun i hi=>?_⟩;have:=h (i+1) (by simpa using hi);simpa[yxm] using this
def VG.rule(h:VG d cs ps)(ho:isO cs.length o):rulB ps o=true↔∀ i,i<o.length→bfN ps (o.getD i 0).toNat ^^^ (bfN ps (o.getD i 0).toNat &&& liesB o i)=0:=by
 have hp:=ord_nat ho;have hr:=z1z (P:=pG ps) (n:=cs.length) (bf:=bfN ps) (fun c a _=>q4u ps c a) (fun a c hp=>(h.lt hp).1) h.irr (o.map Int.toNat) [] 0
  (by rw[List.nil_append];exact hp.nodup_iff.2 List.nodup_range) (fun a=>by rw[List.nil_append,hp.mem_iff,yyr]) (fun a=>by simp)
 unfold rulB;rw[yys,← hr];have h0:(0:Nat)=bitsQ []:=rfl;rw[h0,z1y];have e:∀ i,i<o.length→(o.map Int.toNat).getD i 0=(o.getD i 0).toNat:=fun i hi=>by rw[yyg,List.getElem?_map,yyg,yyl hi];rfl
 constructor
 ·intro k i hi;have:=k i (by rw[yxd];exact hi);rw[e i hi,List.nil_append,← List.map_take] at this;exact this
 ·intro k i hi;rw[yxd] at hi;have:=k i hi;rw[e i hi,List.nil_append,← List.map_take];exact this
end Ox.Gl
namespace Go.Proofs.YtjjkdjbbkagclaaGreatDoor
open Go Go.RowKit Ox Ox.Gl Ox.St
def q3u(n:Nat)(us:List (List Int)):(frP n us).Nodup:=by
 unfold frP;have:∀ (us:List (List Int)) (ps:List (List Int)),ps.Nodup→(us.foldl (fun ps u=>addPr ps (prU n u)) ps).Nodup:=fun us=>by
  induction us with
  |nil=>exact fun ps h=>h
  |cons u us ih=>exact fun ps h=>ih _ (z45 h _)
 exact this us [] yx4
def q6e(hn:0<n)(us:List (List Int)):∀ p∈frP n us,∃ i k:Nat,i<k∧k<n∧p=[(i:Int),(k:Int)]:=by
 unfold frP;have:∀ (us:List (List Int)) (ps:List (List Int)),(∀ p∈ps,∃ i k:Nat,i<k∧k<n∧p=[(i:Int),(k:Int)])→∀ p∈us.foldl (fun ps u=>addPr ps (prU n u)) ps,∃ i k:Nat,i<k∧k<n∧p=[(i:Int),(k:Int)]:=fun us=>by
  induction us with
  |nil=>exact fun ps h=>h
  |cons u us ih=>refine fun ps h=>ih _ (j29 h fun hne=>?_);have m1:=Int.emod_nonneg (u.getD 0 0) (show(n:Int)≠0 by omega);have m2:=Int.emod_lt_of_pos (u.getD 0 0) (show 0<(n:Int) by omega);have m3:=Int.emod_nonneg (u.getD 1 0) (show(n:Int)≠0 by omega);have m4:=Int.emod_lt_of_pos (u.getD 1 0) (show 0<(n:Int) by omega);unfold prU at hne ⊢;generalize u.getD 0 0 % (n:Int)=A at *;generalize u.getD 1 0 % (n:Int)=B at *;replace hne:min A B≠max A B:=hne;refine⟨(min A B).toNat,(max A B).toNat,by omega,by omega,?_⟩;rw[Int.toNat_of_nonneg (by omega),Int.toNat_of_nonneg (by omega)]
 exact this us [] fun p h=>absurd h yxg
section
variable {n:Nat}(h2:2≤n)(h8:n≤8)(us:List (List Int))
include h2 h8
theorem j1r(a c:Nat)(h:pG (frP n us) a c=true):a<c∧c<n:=by
 obtain⟨p,h1,e1,e2⟩:=q6v.1 h;obtain⟨i,k,k1,k2,rfl⟩:=q6e (by omega) us p h1;have qa:q0 [(i:Int),(k:Int)]=i:=by show Int.toNat (i:Int)=i;omega
 have qb:q1 [(i:Int),(k:Int)]=k:=by show Int.toNat (k:Int)=k;omega
 omega
theorem fr_vg:VG 1 (List.replicate n frC) (frP n us):=by
 have hl:(List.replicate n frC).length=n:=List.length_replicate;refine⟨by omega,by omega,?_,by omega,by omega,fun c hc=>?_,fun p hp=>?_,q3u n us,?_⟩
 ·exact Nat.le_trans (z0g (q3u n us) fun p hp=>by obtain⟨i,k,k1,k2,k3⟩:=q6e (by omega) us p hp;exact⟨i,k,k1,by omega,k3⟩) (by decide)
 ·rw[(List.mem_replicate.1 hc).2];unfold okCo sLo sHi cLs cMs;decide
 ·obtain⟨i,k,k1,k2,rfl⟩:=q6e (by omega) us p hp;unfold okPr;have q1:z0 [(i:Int),(k:Int)]=i:=rfl;have q2:z1 [(i:Int),(k:Int)]=k:=rfl;rw[q1,q2,hl];omega
 ·rw[hl];exact z7f fun a c h=>(j1r h2 h8 us a c h).1
theorem fr_nb:NB (pG (frP n us)) n:=z7f fun a c h=>(j1r h2 h8 us a c h).1
theorem fr_win:∀ x,x<(List.replicate n frC).length→loR (winL 1 (List.replicate n frC)) x≤0∧((List.replicate n frC).length:Int)-1≤hiR (winL 1 (List.replicate n frC)) x:=fun x hx=>by
 have hl:(List.replicate n frC).length=n:=List.length_replicate;have hw:=(fr_vg h2 h8 []).win hx;have hg:(List.replicate n frC).getD x coZ=frC:=by rw[yyg,yyl hx,List.getElem_replicate];rfl
 rw[hg,hl] at hw;unfold loR hiR;rw[hw,hl];unfold winD cMs sHi sLo cLs;dsimp only;refine⟨by decide,?_⟩;show(n:Int)-1≤min ((n:Int)-1) ((500-0) / 1);omega
theorem fr_ben:benE n (frP n us)=0:=by
 unfold benE;have h28:=z0g (q3u n us) fun p hp=>by obtain⟨i,k,k1,k2,k3⟩:=q6e (by omega) us p hp;exact⟨i,k,k1,by omega,k3⟩
 rw[if_neg (by omega),if_neg];intro hc;obtain⟨i,hi,hb⟩:=List.any_eq_true.1 hc;rw[yyr] at hi;unfold badP at hb;have hg:(frP n us).getD i prT.dflt=(frP n us)[i]:=by rw[yyg,yyl hi];rfl
 rw[hg] at hb;obtain⟨a,k,k1,k2,k3⟩:=q6e (by omega) us _ (yyy hi);have hb:=of_decide_eq_true hb;have q1:p0 (frP n us)[i]=a:=by rw[k3];rfl
 have q2:p1 (frP n us)[i]=k:=by rw[k3];rfl
 rw[q1,q2] at hb;rcases hb with hb|hb|hb|hb
 ·omega
 ·omega
 ·omega
 ·obtain⟨j,hj,e⟩:=List.mem_take_iff_getElem.1 hb;have:=(List.getElem_inj (q3u n us)).1 e;omega
theorem j1s:crs (frP n us)=crsP (pG (frP n us)):=by
 funext a b;unfold crs crsP;rw[yyz,List.any_eq_true,yy3,q6v,q6v];constructor
 ·rintro⟨p,h1,h2⟩;rcases of_decide_eq_true h2 with⟨e1,e2⟩|⟨e1,e2⟩
  ·exact .inl ⟨p,h1,e1,e2⟩
  ·exact .inr ⟨p,h1,e1,e2⟩
 ·rintro(⟨p,h1,e1,e2⟩|⟨p,h1,e1,e2⟩)
  ·exact⟨p,h1,decide_eq_true (.inl ⟨e1,e2⟩)⟩
  ·exact⟨p,h1,decide_eq_true (.inr ⟨e1,e2⟩)⟩
theorem fr_irr(a:Nat):pG (frP n us) a a=false:=by
 cases h:pG (frP n us) a a
 ·rfl
 ·exact absurd (j1r h2 h8 us a a h).1 (Nat.lt_irrefl a)
variable{o:List Nat}
theorem fr_lst(ho:o.Perm (List.range n)):lstE n (frP n us) (o.map stk)=0:=by
 have hlen:=ho.length_eq;rw[List.length_range] at hlen;unfold lstE;rw[fr_ben h2 h8,if_neg (by simp),if_neg (by rw[yxd];omega),if_pos];refine⟨fun x hx=>?_,fun hx=>?_⟩
 ·obtain⟨c,hc,rfl⟩:=yy0.1 hx;have:=yyr.1 (ho.mem_iff.1 hc);unfold stk;omega
 ·obtain⟨c,hc,e⟩:=yy0.1 hx;unfold stk at e;omega
theorem fr_sh(ho:o∈lvl (pG (frP n us)) n n):shF (frP n us) (o.map stk)=(fstO (pG (frP n us)) n).map stk:=by have:=form_fst (P:=pG (frP n us)) (n:=n) (fun a c h=>by have:=j1r h2 h8 us a c h;omega) (fr_irr h2 h8 us) h8 ho (m:=60) (by omega);rw[← j1s h2 h8] at this;exact this
theorem pos_eq(ho:o.Nodup)(hl:o.length=n)(m:Nat):(lvl (posS (frP n us) (o.map stk)) n m).length=(lvl (posP (pG (frP n us)) o) n m).length:=by
 refine j0x (f:=id) (by simp) (fun i k hi hk=>?_) m;show posS _ _ _ _=posP _ _ i k;unfold posS posP canB;have hg:∀ i,i<n→(o.map stk).getD i 0=stk (o.getD i 0):=fun i hi=>by rw[yyg,yyg,List.getElem?_map,yyl (by omega)];rfl
 rw[hg i hi,hg k hk,p8,p8,j1s h2 h8];by_cases e:i<k
 ·have hne:o.getD i 0≠o.getD k 0:=by rw[yyg,yyg,yyl (by omega),yyl (by omega)];intro h;have:=(List.getElem_inj ho).1 h;omega
  rw[decide_eq_true hne];simp
 ·rw[decide_eq_false e];rfl
end
end Go.Proofs.YtjjkdjbbkagclaaGreatDoor
namespace Go.Proofs.YtjjkdjbbkagclaaGreatDoor
open Go Go.RowKit Ox Ox.Gl
attribute [local irreducible] JC JL JK JW
variable{cs:List CoD}
def fn71{ps:List (List Int)}(h:VG d cs ps):Ox.Fn Tryz.prog 71 (.acons (vG d cs ps) .anil) (·=vF d cs ps (winL d cs) (befL ps)):=by
 refine Ox.Fn.intro xok Tryz.func71 rfl Tryz.call71 (yyc rfl) (fun E M0 up=>?_);refine z9 ?_;have hn1:=h.n1;have hn10:=h.n10;have hp40:=h.p40;have hd1:=h.d1;have hd100:=h.d100;refine zK0 ?_;refine JK.loop (fun i:Nat=>⟨[(1,.lf (.optr 0 [])),(3,.lf (.optr 1 [])),(12,.val (.slice coT) cs),(13,vI cs.length),(14,vI (i:Int))],[(0,.cell glT (vG d cs ps)),(1,.cell sfT (.val sfT (mkF d cs ps (winS d cs.length cs i) (List.replicate 10 0))))],2⟩) (fun i=>i≤cs.length) (fun i=>cs.length-i) 0 (yyu _) (by exact zJ) fun i hi=>?_;have hsn:winS d cs.length cs (i+1)=(winS d cs.length cs i).set i (winD d cs.length (cs.getD i coZ)):=rfl;have hlen:=q2s (d:=d) (cs:=cs) cs.length i;have hok:=fun q:i<cs.length=>z56 h q;have hfin:i=cs.length→winS d cs.length cs i=winL d cs:=fun e=>by rw[e];rfl
 generalize winS d cs.length cs i=W at hsn hlen hfin ⊢;refine zK0 ?_;refine z5 rfl (fun hc=>?_) (fun hc=>?_)
 ·replace hc:=zC hc;have hi':i<cs.length:=by omega
  have hz:cs.getD (Int.toNat (i:Int)) coT.dflt=cs.getD i coZ:=rfl;obtain⟨⟨k1,k2,k3⟩,k4,k5,k6⟩:=hok hi';refine zK0 ?_;rw[hz];generalize cs.getD i coZ=c at hsn k1 k2 k3 k4 k5 k6 ⊢;obtain⟨⟨u,v,_⟩,x,y,_⟩:=c;replace k1:0≤u:=k1;replace k2:u≤v:=k2;replace k3:v≤1000:=k3;replace k4:0≤x:=k4;replace k5:x≤y:=k5;replace k6:y≤1000:=k6;have c1:=fn125 (y-v) d (by omega) (by omega);have c2:=fn125 (u-x) d (by omega) (by omega);have hw:winD d cs.length ((u,v,()),x,y,())=(max 0 (0-((y-v) / d)),min ((cs.length:Int)-1) ((u-x) / d),()):=by rw[Int.zero_sub];rfl
  rw[hw] at hsn;have b1:=div_bd (y-v) d (by omega) (by omega);generalize (y-v) / d=q1 at c1 hsn b1;generalize (u-x) / d=q2 at c2 hsn;refine q0z xk (Tryz.f71.body.getD .skip) ⟨[(1,.lf (.optr 0 [])),(3,.lf (.optr 1 [])),(12,.val (.slice coT) cs),(13,vI cs.length),(14,vI (i:Int))],[(0,.cell glT (vG d cs ps)),(1,.cell sfT (.val sfT (mkF d cs ps (W.set i (max 0 (0-q1),min ((cs.length:Int)-1) q2,())) (List.replicate 10 0))))],2⟩ rfl 32 rfl ?_ ?_
  ·(refine q7 0 xk rfl rfl (q7 1 xk rfl rfl (q7 2 xk rfl rfl (q7 4 xk rfl rfl (q7 5 xk rfl rfl (q7 8 xk rfl rfl (q7 13 xk rfl rfl (q7 17 xk rfl rfl (q7 18 xk rfl rfl (q7 20 xk rfl rfl (q7 23 xk rfl rfl (q7 28 xk rfl rfl (q7 29 xk rfl rfl (z7 3 xk rfl rfl (z7 6 xk rfl rfl (z7 7 xk rfl rfl (z7 9 xk rfl rfl (z7 14 xk rfl rfl (z7 15 xk rfl rfl (z7 16 xk rfl rfl (z7 19 xk rfl rfl (z7 21 xk rfl rfl (z7 22 xk rfl rfl (z7 24 xk rfl rfl (zU 10 xk rfl rfl ?_))))))))))))))))))))))));refine zK28 ?_;refine q8 ?_;refine q7 11 xk rfl rfl (q7 12 xk rfl rfl (zU 25 xk rfl rfl ?_));refine zK28 ?_;refine q8 ?_;refine z7 26 xk rfl rfl (zU 27 xk rfl rfl ?_);refine zK19 ?_;refine q8 ?_;refine z7 30 xk rfl rfl (zU 31 xk rfl rfl ?_);refine zK7 ?_;refine q8 ?_;refine w7 xk StF.nil ?_;(exact zJ))
  rw[← hsn];refine zK0 ?_;exact⟨i+1,by exact zJ,by omega,by omega⟩
 ·replace hc:=zC hc;rw[hfin (by omega)];generalize winL d cs=W;have hpr:=h.pr;refine zK0 ?_;refine JK.loop (fun i:Nat=>⟨[(1,.lf (.optr 0 [])),(3,.lf (.optr 1 [])),(56,.val (.slice prT) ps),(57,vI ps.length),(58,vI (i:Int))],[(0,.cell glT (vG d cs ps)),(1,.cell sfT (.val sfT (mkF d cs ps W (befL (ps.take i)))))],2⟩) (fun i=>i≤ps.length) (fun i=>ps.length-i) 0 (yyu _) (by exact zJ) fun i hi=>?_;have hsn:=fun q:i<ps.length=>bef_snoc ps q (z:=prT.dflt) (k8 ps q _);have hbl:=z29 h i;have hbv:=z44 h i;have hfin:i=ps.length→befL (ps.take i)=befL ps:=fun e=>by rw[e,yxq]
  generalize befL (ps.take i)=B at hsn hbl hbv hfin ⊢;refine zK0 ?_;refine z5 rfl (fun hc=>?_) (fun hc=>?_)
  ·replace hc:=zC hc;have hi':i<ps.length:=by omega
   have hz:ps.getD (Int.toNat (i:Int)) prT.dflt=ps.getD i prT.dflt:=rfl;replace hsn:=hsn hi';have hp:=hpr (ps.getD i prT.dflt) (by rw[k8 ps hi'];exact yyy hi');refine zK0 ?_;rw[hz];generalize ps.getD i prT.dflt=p at hsn hp ⊢;obtain⟨⟨k1,k2⟩,⟨k3,k4⟩,_⟩:=hp;have e0:p.getD (Int.toNat 0) (Ty.int .i64).dflt=z0 p:=rfl;have e1:p.getD (Int.toNat 1) (Ty.int .i64).dflt=z1 p:=rfl;have hq:befS B p=B.set (z1 p).toNat (((B.getD (z1 p).toNat 0).toNat ||| (1*2 ^ (z0 p).toNat:Int).toNat:Nat):Int):=rfl;rw[hq] at hsn;have hb2:=hbv (z1 p).toNat;have hpw:=q07 (n:=(z0 p).toNat) (by omega);rw[← e0] at k1 k2 hpw hsn;rw[← e1] at k3 k4 hb2 hsn;clear hq e0 e1 hbv;refine q0z xk (Tryz.f71.body.getD .skip) ⟨[(1,.lf (.optr 0 [])),(3,.lf (.optr 1 [])),(56,.val (.slice prT) ps),(57,vI ps.length),(58,vI (i:Int))],[(0,.cell glT (vG d cs ps)),(1,.cell sfT (.val sfT (mkF d cs ps W (befL (ps.take (i+1))))))],2⟩ rfl 15 rfl ?_ ?_
   ·rw[hsn]
    (refine q7 0 xk rfl rfl (q7 1 xk rfl rfl (q7 3 xk rfl rfl (q7 4 xk rfl rfl (q7 7 xk rfl rfl (q7 11 xk rfl rfl (q7 12 xk rfl rfl (z7 2 xk rfl rfl (z7 5 xk rfl rfl (z7 6 xk rfl rfl (z7 8 xk rfl rfl (z7 9 xk rfl rfl (z7 10 xk rfl rfl (z7 13 xk rfl rfl (zU 14 xk rfl rfl ?_))))))))))))));exact zB7)
   refine zK0 ?_;exact⟨i+1,by exact zJ,by omega,by omega⟩
  ·replace hc:=zC hc;rw[hfin (by omega)]
   (refine z1j [1] [3] rfl ?_)
   refine zK0 ?_;refine⟨.inl rfl,_,_,rfl,trivial,?_⟩;rfl
def eqBf:EqT Tryz.prog bfT 85:=.of (by decide +kernel)
def fn120{ps:List (List Int)}(h:VG d cs ps)(W:List RgD):Ox.Fn Tryz.prog 120 (.acons (vF d cs ps W (befL ps)) .anil) (·=vB false):=by
 refine Ox.Fn.intro xok Tryz.func120 rfl Tryz.call120 (yyc rfl) (fun E M0 up=>?_);refine z9 ?_;have hn10:=h.n10;have hbv:=h.bef;have hbt:=h.bf_1024;have hb10:=h.bef_len;have c84:=fn84 d cs ps W (befL ps) hn10;have hpl:=fun l=>peel_lt (left:=l) h.nb (fun c a _=>q4u ps c a);have hpw:=q07 hn10;have hp2:=z4a hn10;generalize befL ps=B at hbv hb10 c84 ⊢;generalize bfN ps=bf at hbv hbt hpl;refine z8r ?_;refine z5 rfl (fun hc=>?_) (fun hc=>?_)
 ·refine z8r ?_;refine⟨.inl rfl,_,_,rfl,trivial,?_⟩;rfl
 clear hc
 (repeat (first|refine zs rfl ?_|refine zg rfl rfl rfl ?_|refine v6 ?_|refine w8 ?_|refine zeq eqBf rfl rfl rfl ?_|refine zc rfl (c84) rfl rfl ?_|refine ze rfl (c84) rfl ?_|refine zk rfl rfl (fun _=>c84) rfl rfl ?_))
 refine JK.loop (fun left:Nat=>⟨[(0,vF d cs ps W B),(3,vS64 left)],[],0⟩) (fun left=>left<2 ^ cs.length) (fun left=>left) (2 ^ cs.length-1) (by have:=Nat.two_pow_pos cs.length;omega) (by exact zJ) fun left hl=>?_;refine z8r ?_;refine z5 rfl (fun hc=>?_) (fun hc=>?_)
 ·have h0:left≠0:=by simpa using hc
  have hpl:=hpl left h0 hl;clear hc;refine z8r ?_;refine JK.loop (fun c:Nat=>⟨[(0,vF d cs ps W B),(3,vS64 left),(4,vS64 (freeM bf left c)),(21,vI cs.length),(22,vI (c:Int))],[],0⟩) (fun c=>c≤cs.length∧freeM bf left c<1024) (fun c=>cs.length-c) 0 ⟨yyu _,by simp[freeM]⟩ (by exact zJ) fun c ⟨hcl,hft⟩=>?_;have hs:freeM bf left (c+1)=if left &&& 2 ^ c≠0∧bf c &&& left=0 then freeM bf left c ||| 2 ^ c else freeM bf left c:=rfl
  have hfin:c=cs.length→freeM bf left c=freeM bf left cs.length:=fun e=>by rw[e]
  generalize freeM bf left c=f at hft hs hfin ⊢;refine z8r ?_;refine z5 rfl (fun hc=>?_) (fun hc=>?_)
  ·replace hc:=zC hc;have hc':c<cs.length:=by omega
   have hpc:=q07 (n:=c) (by omega);have hbc:=hbv c;have hbc2:=hbt c;have hll:left<1024:=by omega
   have e0:B.getD (Int.toNat (c:Int)) (Ty.int .u64).dflt=((bf c:Nat):Int):=hbc;have hbb:0≤B.getD (Int.toNat (c:Int)) (Ty.int .u64).dflt∧B.getD (Int.toNat (c:Int)) (Ty.int .u64).dflt<1024:=by rw[e0];omega
   have hB:(bif (((((left:Nat):Int).toNat &&& ((1:Int)*2 ^ (Int.toNat (c:Int))).toNat:Nat):Int) != 0) then((((B.getD (Int.toNat (c:Int)) (Ty.int .u64).dflt).toNat &&& ((left:Nat):Int).toNat:Nat):Int)==0) else false)=decide (left &&& 2 ^ c≠0∧bf c &&& left=0):=by
    rw[e0,Int.toNat_natCast,Int.toNat_natCast,Int.toNat_natCast,q3q,yyz];by_cases z:left &&& 2 ^ c=0
    ·simp[z]
    ·have z':(((left &&& 2 ^ c:Nat):Int) != 0)=true:=by simp;exact_mod_cast z
     rw[z',cond_true];simp[z]
   refine z8r ?_;refine z5 rfl (fun hd=>?_) (fun hd=>?_)
   ·rw[if_pos (of_decide_eq_true (hB.symm.trans hd))] at hs;refine z8r ?_;refine⟨c+1,?_,⟨by omega,?_⟩,by omega⟩
    ·rw[hs];rw[vS_or];exact zJ
    ·rw[hs];exact Nat.or_lt_two_pow (n:=10) hft (Nat.pow_lt_pow_right (by decide) (by omega))
   ·rw[if_neg (of_decide_eq_false (hB.symm.trans hd))] at hs;refine z8r ?_;refine⟨c+1,?_,⟨by omega,by rw[hs];exact hft⟩,by omega⟩;rw[hs];exact zJ
  ·replace hc:=zC hc;replace hfin:=hfin (by omega);rw[← hfin] at hpl;refine z8r ?_;refine z5 rfl (fun hd=>?_) (fun hd=>?_)
   ·have:f=0:=by simpa using hd
    rw[this] at hpl;simp at hpl
   refine z8r ?_;refine⟨left ^^^ (left &&& f),?_,by omega,hpl⟩;rw[vS_not];exact zJ
 ·refine z8r ?_;refine⟨.inl rfl,_,_,rfl,trivial,?_⟩;rfl
def fn121(c:CoD)(h:okCo c):Ox.Fn Tryz.prog 121 (.acons (vCo c) .anil) (·=vB false):=by
 refine Ox.Fn.intro xok Tryz.func121 rfl Tryz.call121 (yyc rfl) (fun E M0 up=>?_);refine z9 ?_;obtain⟨⟨u,v,_⟩,x,y,_⟩:=c;obtain⟨⟨k1,k2,k3⟩,k4,k5,k6⟩:=h;replace k1:0≤u:=k1;replace k2:u≤v:=k2;replace k3:v≤1000:=k3;replace k4:0≤x:=k4;replace k5:x≤y:=k5;replace k6:y≤1000:=k6;obtain⟨b,hb⟩:∃ b,b=true:=⟨true,rfl⟩;have c1:=z6y (lo:=0) (hi:=1000) (xs:=u::v::x::y::List.nil) hb (by simp;omega);refine zK29 ?_;refine⟨.inl rfl,_,_,rfl,trivial,?_⟩;refine congrArg vB ?_;have h1:¬ v<u:=by omega
 have h2:¬ y<x:=by omega
 simp[hb,h1,h2]
def fn206(xs:List CoD)(p:CoD→Bool)(h:∀ x∈xs,Ox.Fn Tryz.prog f (.acons (vCo x) .anil) (·=vB (p x))) :
  Ox.Fn Tryz.prog 206 (.acons (.val (.slice coT) xs) (.acons (.fn f .anil .anil) .anil)) (·=vI (idxB p xs 0)):=by
 refine Ox.Fn.intro xok Tryz.func206 rfl Tryz.call206 (yyc rfl) (fun E M0 up=>?_);refine z9 ?_;refine JK.lenOf 0 rfl fun hlen=>?_;replace hlen:xs.length≤9223372036854775807:=hlen.1;refine zK0 ?_;refine JK.loop (fun i:Nat=>⟨[(0,.val (.slice coT) xs),(1,.fn f .anil .anil),(7,vI xs.length),(8,vI (i:Int))],[],0⟩) (fun i=>i≤xs.length∧idxB p xs 0=idxB p (xs.drop i) i) (fun i=>xs.length-i) 0 (by simp) (by exact zJ) fun i ⟨hi,hn⟩=>?_;refine zK0 ?_;refine z5 rfl (fun hc=>?_) (fun hc=>?_)
 ·replace hc:=zC hc;have hi':i<xs.length:=by omega
  have hx:=h (xs.getD i coZ) (by rw[k8 xs hi'];exact yyy hi');refine zK16 ?_;refine z5 rfl (fun hd=>?_) (fun hd=>?_)
  ·refine zK0 ?_;refine⟨.inl rfl,_,_,rfl,trivial,?_⟩;rw[k8 xs hi'] at hd;rw[hn,yxh hi',idxB,if_pos hd]
  ·refine zK0 ?_;rw[k8 xs hi'] at hd;refine⟨i+1,by exact zJ,⟨by omega,?_⟩,by omega⟩;rw[hn,yxh hi',idxB,if_neg (by rw[hd];simp)]
 ·replace hc:=zC hc;refine zK0 ?_;refine⟨.inl rfl,_,_,rfl,trivial,?_⟩;obtain rfl:i=xs.length:=by omega
  rw[hn,List.drop_length];rfl
def fn122(xs:List CoD)(p:CoD→Bool)(h:∀ x∈xs,Ox.Fn Tryz.prog f (.acons (vCo x) .anil) (·=vB (p x))) :
  Ox.Fn Tryz.prog 122 (.acons (.val (.slice coT) xs) (.acons (.fn f .anil .anil) .anil)) (·=vB (xs.any p)):=by
 refine Ox.Fn.intro xok Tryz.func122 rfl Tryz.call122 (yyc rfl) (fun E M0 up=>?_);refine z9 ?_
 (repeat (first|refine zs rfl ?_|refine zg rfl rfl rfl ?_|refine v6 ?_|refine w8 ?_|refine zc rfl (fn206 xs p h) rfl rfl ?_|refine ze rfl (fn206 xs p h) rfl ?_|refine zk rfl rfl (fun _=>fn206 xs p h) rfl rfl ?_))
 refine⟨.inl rfl,_,_,rfl,trivial,?_⟩;refine congrArg vB ?_;rw[yyz,← s5 (p:=p) (i:=0)];simp
set_option maxHeartbeats 4000000 in
def fn68{ps:List (List Int)}(h:VG d cs ps):Ox.Fn Tryz.prog 68 (.acons (vG d cs ps) .anil) (·=vI 0):=by
 refine Ox.Fn.intro xok Tryz.func68 rfl Tryz.call68 (yyc rfl) (fun E M0 up=>?_);refine z9 ?_;have hn1:=h.n1;have hn10:=h.n10;have hp40:=h.p40;have hd1:=h.d1;have hd100:=h.d100;obtain⟨b,hb⟩:∃ b,b=true:=⟨true,rfl⟩;have c1:=z6y (lo:=0) (hi:=9) (xs:=((cs.length:Int)-1)::List.nil) hb (by simp;omega);have c2:=z6y (lo:=1) (hi:=100) (xs:=d::List.nil) hb (by simp;omega);obtain⟨f,hf⟩:∃ f,f=false:=⟨false,rfl⟩;have c3:=fn122 (f:=121) cs (fun _=>false) fun x hx=>fn121 x (h.co x hx);have e3:(cs.any fun _=>false)=f:=by rw[hf];simp
 rw[e3] at c3;have c71:=fn71 h;have c120:=fn120 h (winL d cs);refine zK29 ?_;refine z5 rfl (fun hc=>absurd hc ?_) (fun _=>?_)
 ·have h1:¬ ((40:Int)<ps.length):=by omega
  simp[hb,h1]
 (repeat (first|refine zs rfl ?_|refine zg rfl rfl rfl ?_|refine v6 ?_|refine w8 ?_|refine zc rfl (c2) rfl rfl ?_|refine ze rfl (c2) rfl ?_|refine zk rfl rfl (fun _=>c2) rfl rfl ?_|refine zc rfl (c3) rfl rfl ?_|refine ze rfl (c3) rfl ?_|refine zk rfl rfl (fun _=>c3) rfl rfl ?_))
 refine z5 rfl (fun hc=>absurd hc ?_) (fun _=>?_)
 ·simp[hb,hf]
 refine zK0 ?_;refine JK.loop (fun i:Nat=>⟨[(1,.lf (.optr 0 [])),(4,vI ((cs.length:Int)-1)),(35,.val (.slice prT) ps),(36,vI ps.length),(37,vI (i:Int))],[(0,.cell glT (vG d cs ps))],1⟩) (fun i=>i≤ps.length) (fun i=>ps.length-i) 0 (yyu _) (by exact zJ) fun i hi=>?_;have hpr:=fun q:i<ps.length=>h.pr (ps.getD i prT.dflt) (by rw[k8 ps q];exact yyy q);have hnd:∀ q:i<ps.length,ps.getD i prT.dflt∉ps.take i:=fun q hm=>by rw[k8 ps q,List.mem_take_iff_getElem] at hm;obtain⟨j,hj,e⟩:=hm;have:=(List.nodup_iff_pairwise_ne.1 h.nd);exact(ywa.1 this j i (by omega) q (by omega)) e
 refine zK0 ?_;refine z5 rfl (fun hc=>?_) (fun hc=>?_)
 ·replace hc:=zC hc;have hi':i<ps.length:=by omega
  have hz:ps.getD (Int.toNat (i:Int)) prT.dflt=ps.getD i prT.dflt:=rfl;replace hpr:=hpr hi';replace hnd:=hnd hi';refine zK0 ?_;rw[hz];have c5:=fn123 (ps.take i) (ps.getD i prT.dflt);rw[decide_eq_false hnd,← hf] at c5;generalize ps.getD i prT.dflt=p at hpr c5 ⊢;obtain⟨k1,k2,k3⟩:=hpr;have c4:=z6y (lo:=0) (hi:=(cs.length:Int)-1) (xs:=z0 p::z1 p::List.nil) hb (by simp;omega);have hil:(0:Int)≤i∧(i:Int)≤ps.length:=by omega
  refine p4 xk (Tryz.f68.body.getD .skip) ⟨[(1,.lf (.optr 0 [])),(4,vI ((cs.length:Int)-1)),(35,.val (.slice prT) ps),(36,vI ps.length),(37,vI (i:Int)),(64,vB (bif (bif (z0 p==z1 p) then true else !b) then true else f))],[(0,.cell glT (vG d cs ps))],1⟩ rfl 23 rfl ?_ ?_
  ·have hg1:wantB false (p.getD (Int.toNat 0) (Ty.int .i64).dflt==p.getD (Int.toNat 1) (Ty.int .i64).dflt)=true:=by show(!(z0 p==z1 p))=true;simpa using k3
   (refine q7 0 xk rfl rfl (q7 2 xk rfl rfl (z7 1 xk rfl rfl (z7 3 xk rfl rfl (z7 4 xk rfl rfl (z7 5 xk rfl rfl ?_)))));refine j9 6 [7,9] xk ?_ ?_;exact zS;refine(BrF.one rfl rfl ?_ (BrF.one rfl rfl ?_ (BrF.one rfl rfl ?_ BrF.nil)));(· (refine w6 xk rfl rfl rfl ?_);refine q8 ?_;refine q9 7 xk rfl rfl rfl (q9 9 xk rfl rfl rfl ?_);refine j9 8 [10] xk ?_ ?_;exact zS;refine(BrF.one rfl rfl ?_ (BrF.one rfl rfl ?_ BrF.nil));(· (refine w6 xk rfl rfl rfl ?_);refine q8 ?_;refine zU 10 xk rfl rfl ?_;(refine w6 xk rfl rfl rfl ?_);refine q8 ?_;refine zU 11 xk rfl rfl ?_;((refine z47 rfl hg1 ?_;refine q2p xk rfl rfl ?_));refine q8 ?_;refine zU 12 xk rfl rfl ?_;refine zK6 ?_;refine q8 ?_;refine q9 13 xk rfl rfl rfl (q7 14 xk rfl rfl (q7 15 xk rfl rfl (q9 16 xk rfl rfl rfl (q9 18 xk rfl rfl rfl ?_))));refine j9 17 [20] xk ?_ ?_;exact zS;refine(BrF.one rfl rfl ?_ (BrF.one rfl rfl ?_ BrF.nil));(· (refine w6 xk rfl rfl rfl ?_);refine q8 ?_;refine q9 19 xk rfl rfl rfl (zU 20 xk rfl rfl ?_);(refine w6 xk rfl rfl rfl ?_);refine q8 ?_;refine zU 21 xk rfl rfl ?_;refine zK6 ?_;refine q8 ?_;refine q7 22 xk rfl rfl ?_;refine w7 xk ?_ ?_;exact zS;(exact zJ));(· (refine w6 xk rfl rfl rfl ?_);refine q8 ?_;refine zU 17 xk rfl rfl ?_;(refine w6 xk rfl rfl rfl ?_);refine q8 ?_;refine q9 19 xk rfl rfl rfl (zU 21 xk rfl rfl ?_);exact zB6));(· (refine w6 xk rfl rfl rfl ?_);refine q8 ?_;refine zU 8 xk rfl rfl ?_;(refine w6 xk rfl rfl rfl ?_);refine q8 ?_;refine zU 11 xk rfl rfl ?_;((refine z47 rfl hg1 ?_;refine q2p xk rfl rfl ?_));refine q8 ?_;refine zU 12 xk rfl rfl ?_;refine zK6 ?_;refine q8 ?_;refine q9 13 xk rfl rfl rfl (q7 14 xk rfl rfl (q7 15 xk rfl rfl (q9 16 xk rfl rfl rfl (q9 18 xk rfl rfl rfl ?_))));refine j9 17 [20] xk ?_ ?_;exact zS;refine(BrF.one rfl rfl ?_ (BrF.one rfl rfl ?_ BrF.nil));(· (refine w6 xk rfl rfl rfl ?_);refine q8 ?_;refine q9 19 xk rfl rfl rfl (zU 20 xk rfl rfl ?_);(refine w6 xk rfl rfl rfl ?_);refine q8 ?_;refine zU 21 xk rfl rfl ?_;refine zK6 ?_;refine q8 ?_;refine q7 22 xk rfl rfl ?_;refine w7 xk ?_ ?_;exact zS;(exact zJ));exact zB9));(· (refine w6 xk rfl rfl rfl ?_);refine q8 ?_;refine q9 6 xk rfl rfl rfl (q9 9 xk rfl rfl rfl ?_);refine j9 8 [10] xk ?_ ?_;exact zS;refine(BrF.one rfl rfl ?_ (BrF.one rfl rfl ?_ BrF.nil));(· (refine w6 xk rfl rfl rfl ?_);refine q8 ?_;refine zU 10 xk rfl rfl ?_;(refine w6 xk rfl rfl rfl ?_);refine q8 ?_;refine zU 11 xk rfl rfl ?_;((refine z47 rfl hg1 ?_;refine q2p xk rfl rfl ?_));refine q8 ?_;refine zU 12 xk rfl rfl ?_;refine zK6 ?_;refine q8 ?_;refine q9 13 xk rfl rfl rfl (q7 14 xk rfl rfl (q7 15 xk rfl rfl (q9 16 xk rfl rfl rfl (q9 18 xk rfl rfl rfl ?_))));refine j9 17 [20] xk ?_ ?_;exact zS;refine(BrF.one rfl rfl ?_ (BrF.one rfl rfl ?_ BrF.nil));(· (refine w6 xk rfl rfl rfl ?_);refine q8 ?_;refine q9 19 xk rfl rfl rfl (zU 20 xk rfl rfl ?_);(refine w6 xk rfl rfl rfl ?_);refine q8 ?_;refine zU 21 xk rfl rfl ?_;exact zB6);(· (refine w6 xk rfl rfl rfl ?_);refine q8 ?_;refine zU 17 xk rfl rfl ?_;(refine w6 xk rfl rfl rfl ?_);refine q8 ?_;refine q9 19 xk rfl rfl rfl (zU 21 xk rfl rfl ?_);refine zK6 ?_;refine q8 ?_;refine q7 22 xk rfl rfl ?_;refine w7 xk ?_ ?_;exact zS;(exact zJ)));(· (refine w6 xk rfl rfl rfl ?_);refine q8 ?_;refine zU 8 xk rfl rfl ?_;(refine w6 xk rfl rfl rfl ?_);refine q8 ?_;refine zU 11 xk rfl rfl ?_;((refine z47 rfl hg1 ?_;refine q2p xk rfl rfl ?_));refine q8 ?_;refine zU 12 xk rfl rfl ?_;refine zK6 ?_;refine q8 ?_;refine q9 13 xk rfl rfl rfl (q7 14 xk rfl rfl (q7 15 xk rfl rfl (q9 16 xk rfl rfl rfl (q9 18 xk rfl rfl rfl ?_))));refine j9 17 [20] xk ?_ ?_;exact zS;refine(BrF.one rfl rfl ?_ (BrF.one rfl rfl ?_ BrF.nil));(· (refine w6 xk rfl rfl rfl ?_);refine q8 ?_;refine q9 19 xk rfl rfl rfl (zU 20 xk rfl rfl ?_);(refine w6 xk rfl rfl rfl ?_);refine q8 ?_;refine zU 21 xk rfl rfl ?_;exact zB6);(· (refine w6 xk rfl rfl rfl ?_);refine q8 ?_;refine zU 17 xk rfl rfl ?_;(refine w6 xk rfl rfl rfl ?_);refine q8 ?_;refine q9 19 xk rfl rfl rfl (zU 21 xk rfl rfl ?_);refine zK6 ?_;refine q8 ?_;refine q7 22 xk rfl rfl ?_;refine w7 xk ?_ ?_;exact zS;(exact zJ))));(· (refine w6 xk rfl rfl rfl ?_);refine q8 ?_;refine q9 6 xk rfl rfl rfl (q9 7 xk rfl rfl rfl ?_);refine j9 8 [10] xk ?_ ?_;exact zS;refine(BrF.one rfl rfl ?_ (BrF.one rfl rfl ?_ BrF.nil));(· (refine w6 xk rfl rfl rfl ?_);refine q8 ?_;refine zU 10 xk rfl rfl ?_;(refine w6 xk rfl rfl rfl ?_);refine q8 ?_;refine zU 11 xk rfl rfl ?_;((refine z47 rfl hg1 ?_;refine q2p xk rfl rfl ?_));refine q8 ?_;refine zU 12 xk rfl rfl ?_;exact zB11);(· (refine w6 xk rfl rfl rfl ?_);refine q8 ?_;refine zU 8 xk rfl rfl ?_;(refine w6 xk rfl rfl rfl ?_);refine q8 ?_;refine zU 11 xk rfl rfl ?_;((refine z47 rfl hg1 ?_;refine q2p xk rfl rfl ?_));refine q8 ?_;refine zU 12 xk rfl rfl ?_;exact zB11)))
  refine z5 rfl (fun hc=>absurd hc ?_) (fun _=>?_)
  ·simp[hb,hf,k3]
  refine zK0 ?_;exact⟨i+1,by exact zJ,by omega,by omega⟩
 ·replace hc:=zC hc
  (repeat (first|refine zs rfl ?_|refine zg rfl rfl rfl ?_|refine v6 ?_|refine w8 ?_|refine zc rfl (c71) rfl rfl ?_|refine ze rfl (c71) rfl ?_|refine zk rfl rfl (fun _=>c71) rfl rfl ?_|refine zc rfl (c120) rfl rfl ?_|refine ze rfl (c120) rfl ?_|refine zk rfl rfl (fun _=>c120) rfl rfl ?_))
  refine z5 rfl (fun h=>absurd h (by decide)) (fun _=>?_);refine zK0 ?_;refine⟨.inl rfl,_,_,rfl,trivial,?_⟩;rfl
variable{t1:Ty}
def j1v{x1:t1.den}(xs:List Int)(p:Int→Bool)(h:∀ x∈xs,Ox.Fn Tryz.prog f (.acons (vI x) (.acons (.val t1 x1) .anil)) (·=vB (p x))) :
  Ox.Fn Tryz.prog 124 (.acons (vL xs) (.acons (.fn f .anil (.acons (.val t1 x1) .anil)) .anil)) (·=vI (idxB p xs 0)):=by
 refine Ox.Fn.intro xok Tryz.func124 rfl Tryz.call124 (yyc rfl) (fun E M0 up=>?_);refine z9 ?_;refine JK.lenOf 0 rfl fun hlen=>?_;replace hlen:xs.length≤9223372036854775807:=hlen.1;refine zK0 ?_;refine JK.loop (fun i:Nat=>⟨[(0,vL xs),(1,.fn f .anil (.acons (.val t1 x1) .anil)),(7,vI xs.length),(8,vI (i:Int))],[],0⟩) (fun i=>i≤xs.length∧idxB p xs 0=idxB p (xs.drop i) i) (fun i=>xs.length-i) 0 (by simp) (by exact zJ) fun i ⟨hi,hn⟩=>?_;refine zK0 ?_;refine z5 rfl (fun hc=>?_) (fun hc=>?_)
 ·replace hc:=zC hc;have hi':i<xs.length:=by omega
  have hx:=h (xs.getD i 0) (by rw[k8 xs hi'];exact yyy hi');refine zK16 ?_;refine z5 rfl (fun hd=>?_) (fun hd=>?_)
  ·refine zK0 ?_;refine⟨.inl rfl,_,_,rfl,trivial,?_⟩;rw[k8 xs hi'] at hd;rw[hn,yxh hi',idxB,if_pos hd]
  ·refine zK0 ?_;rw[k8 xs hi'] at hd;refine⟨i+1,by exact zJ,⟨by omega,?_⟩,by omega⟩;rw[hn,yxh hi',idxB,if_neg (by rw[hd];simp)]
 ·replace hc:=zC hc;refine zK0 ?_;refine⟨.inl rfl,_,_,rfl,trivial,?_⟩;obtain rfl:i=xs.length:=by omega
  rw[hn,List.drop_length];rfl
def fn69c{x1:t1.den}(xs:List Int)(p:Int→Bool)(h:∀ x∈xs,Ox.Fn Tryz.prog f (.acons (vI x) (.acons (.val t1 x1) .anil)) (·=vB (p x))) :
  Ox.Fn Tryz.prog 69 (.acons (vL xs) (.acons (.fn f .anil (.acons (.val t1 x1) .anil)) .anil)) (·=vB (xs.any p)):=by
 refine Ox.Fn.intro xok Tryz.func69 rfl Tryz.call69 (yyc rfl) (fun E M0 up=>?_);refine z9 ?_
 (repeat (first|refine zs rfl ?_|refine zg rfl rfl rfl ?_|refine v6 ?_|refine w8 ?_|refine zc rfl (j1v xs p h) rfl rfl ?_|refine ze rfl (j1v xs p h) rfl ?_|refine zk rfl rfl (fun _=>j1v xs p h) rfl rfl ?_))
 refine⟨.inl rfl,_,_,rfl,trivial,?_⟩;refine congrArg vB ?_;rw[yyz,← s5 (p:=p) (i:=0)];simp
def fn70(d:Int)(cs:List CoD)(ps:List (List Int))(c:Int):Ox.Fn Tryz.prog 70 (.acons (vI c) (.acons (.val (.ptr glT) (some (mkG d cs ps))) .anil)) (·=vB (decide (c<0∨c ≥ cs.length))):=by refine Ox.Fn.intro xok Tryz.func70 rfl Tryz.call70 (yyc rfl) (fun E M0 up=>?_);refine z9 ?_;refine zK0 ?_;refine⟨.inl rfl,_,_,rfl,trivial,?_⟩;by_cases h:c<0<;>simp[h]
abbrev vT2f(d:Int)(cs:List CoD)(ps:List (List Int)):AV:=.tup (.acons (vF d cs ps (winL d cs) (befL ps)) (.acons (vI 0) .anil))
def fn26{ps:List (List Int)}(h:VG d cs ps)(l:List Int)(hl:∀ x∈l,0≤x∧x<cs.length):Ox.Fn Tryz.prog 26 (.acons (vG d cs ps) (.acons (vL l) .anil)) (·=vT2f d cs ps):=by
 refine Ox.Fn.intro xok Tryz.func26 rfl Tryz.call26 (yyc rfl) (fun E M0 up=>?_);refine z9 ?_;have c68:=fn68 h;have c71:=fn71 h;have c69:=fn69c (f:=70) l (fun c=>decide (c<0∨c ≥ cs.length)) (fun x _=>fn70 d cs ps x);have e:(l.any fun c=>decide (c<0∨c ≥ cs.length))=false:=by rw[List.any_eq_false];intro x hx;have:=hl x hx;simp;omega
 rw[e] at c69
 (repeat (first|refine zs rfl ?_|refine zg rfl rfl rfl ?_|refine v6 ?_|refine w8 ?_|refine zc rfl (c68) rfl rfl ?_|refine ze rfl (c68) rfl ?_|refine zk rfl rfl (fun _=>c68) rfl rfl ?_))
 refine z5 rfl (fun h=>absurd h (by decide)) (fun _=>?_)
 (refine z1j [0] [1,2] rfl ?_)
 (repeat (first|refine zs rfl ?_|refine zg rfl rfl rfl ?_|refine v6 ?_|refine w8 ?_|refine zc rfl (c69) rfl rfl ?_|refine ze rfl (c69) rfl ?_|refine zk rfl rfl (fun _=>c69) rfl rfl ?_))
 refine z5 rfl (fun h=>absurd h (by decide)) (fun _=>?_)
 (repeat (first|refine zs rfl ?_|refine zg rfl rfl rfl ?_|refine v6 ?_|refine w8 ?_|refine zc rfl (c71) rfl rfl ?_|refine ze rfl (c71) rfl ?_|refine zk rfl rfl (fun _=>c71) rfl rfl ?_))
 refine⟨.inl rfl,_,_,rfl,trivial,?_⟩;rfl
def fn29{ps:List (List Int)}(W:List RgD)(B:List Int)(k:Int)(hc:c<10)(hW:W.length=10) :
  Ox.Fn Tryz.prog 29 (.acons (vF d cs ps W B) (.acons (vI (c:Int)) (.acons (vI k) .anil))) (·=vB (decide (loR W c≤k∧k≤hiR W c))):=by
 refine Ox.Fn.intro xok Tryz.func29 rfl Tryz.call29 (yyc rfl) (fun E M0 up=>?_);refine z9 ?_;have hz:W.getD (Int.toNat (c:Int)) rgT.dflt=W.getD c (0,0,()):=rfl;unfold loR hiR;refine zK0 ?_;rw[hz];refine⟨.inl rfl,_,_,rfl,trivial,?_⟩;generalize W.getD c (0,0,())=q;refine congrArg vB ?_;rw[yyz];by_cases h:q.1≤k<;>simp[h]
end Go.Proofs.YtjjkdjbbkagclaaGreatDoor
namespace Ox
open Go Go.RowKit
variable {X:Ctx}{s:S}{M:Mem}{ρ:Env}{a:Act}{w w':World}{QA:Exit→S→Prop}{all l:List Oper}{o:Oper}
variable{az:AV}
def z48{tys:Array TypeId}{e:Ty}{xs:List e.den}(hg:o.guard=none)(hop:o.op=.call {callee:=.value fo,args:=args,argTypes:=tys})
  (hu:opd s.L fo=some (cs1,.fn f .anil .anil)) (ha:opds s.L args.toList=some (cs2,az)) (hc:allP (cs1++cs2)) (hf:FnRow X.P f az eid e xs) (hb0:az.bd 0) (hd:dstOk X.n o.dst)
  (k:JL X true all QA l (putS o.dst (.lf (.osl s.nx)) ⟨s.L,(s.nx,.sl eid e xs)::s.H,s.nx+1⟩)):JL X true all QA (o::l) s:=by
 intro M ρ a w h1 h2;rw[z6] at hc;obtain⟨hub,eu⟩:=z8 hu hc.1 h2;simp only[AV.rv] at eu;obtain⟨fs,ks,k1,k2,k3⟩:=eu;obtain⟨hab,ea⟩:=n9 h2 ha hc.2;simp only[AV.rvs] at k1 k2;subst k1;subst k2;have hrun:(execOp a.eval o).run X.P w=.ok (.enter f (args.toList.map a.eval).toArray) w:=by
  have hmap:Array.map a.eval args=(List.map a.eval args.toList).toArray:=by rw[← yxf]
  obtain⟨dst,op,ty,pos,after,guard⟩:=o;simp only at hop;subst hop;simp only[execOp,resolve,k3,Deferred.ofValue,yye,yyf,yyb,invoke,hmap];rw[← hf.call];simp
 refine j4 (j7 hg) (x3 (by rw[hop];rfl) hrun (hf.run M ρ w _ h1.mem ea hb0) ?_);rintro en w' ⟨v,cs',M',rfl,hrow,hrl,hbl,hm,hin,hnew,hno⟩;have h3:=h1.ext hbl hm hin hnew;have hv1:v.oneCell'=true:=by rcases hrow.2 with⟨e1,_⟩|⟨g,cap,cur,e1,_⟩<;>rw[e1]<;>rfl
 have hge:∀ b,v.ownBlock=some b→w.heap.size≤b:=fun b hb=>by
  rcases hrow.2 with⟨e1,_⟩|⟨g,cap,cur,e1,e2,_⟩
  ·rw[e1] at hb;cases hb
  ·rw[e1] at hb;simp only[Value.ownBlock,yya] at hb;subst hb;exact e2
 have h5:SAT X M' (ρ.with s.nx 0 e v) ⟨s.L,(s.nx,.sl eid e xs)::s.H,s.nx+1⟩ w':=by
  refine h3.add (row:=none) ⟨rfl,rfl,rfl,yym _,fun _ _ _=>rfl⟩ (fun b hb=>by cases hb) (fun l o hl=>⟨hl,fun b _ e=>by cases e⟩) (j8 _ _ _ _ _) trivial ?_ ?_
  ·simp only[HO.ok,Env.with,if_true];refine⟨trivial,cs',⟨hrow.1,?_⟩,hrl⟩;rcases hrow.2 with e1|⟨g,cap,cur,e1,e2,e3⟩
   ·exact .inl e1
   ·exact .inr ⟨g,cap,cur,e1,Nat.le_trans h1.below.size e2,e3⟩
  ·intro b hbb;simp only[HO.at,Env.with,if_true] at hbb;refine⟨hno b hbb,fun l o1 hl hat=>?_⟩;have:=(p5 (h1.own l o1 hl).2.2 hat).2;have:=hge b hbb;omega
 have h4:REG X M' (ρ.with s.nx 0 e v) ⟨s.L,(s.nx,.sl eid e xs)::s.H,s.nx+1⟩ a:=h2.grow hm (j8 _ _ _ _ _) (yxc _) fun D hD=>by rw[hnew D (yyk.1 (h1.mem _ _ hD)).1];exact hD
 refine⟨_,rfl,k M' _ _ w' (j0 h5) (h4.putO hd.spec (yy9 _) ?_)⟩;rw[y7];exact⟨by simp[Leaf.at,Env.with],hv1⟩
def z5c{r:List Fr}{L:List (Nat×AV)}{H:List (Nat×HO)}{nx d:Nat}{ty:TypeId}{ps:String}{af:Array Edge}{tys:Array TypeId}{e:Ty}{xs:List e.den}
  (hu:opd L fo=some (cs1,.fn f .anil .anil)) (ha:opds L args.toList=some (cs2,az)) (hc:allP (cs1++cs2)) (hf:FnRow X.P f az eid e xs) (hb0:az.bd 0) (hd:ltB d X.n=true)
  (k:JK X (.ops true all l::r) QA ⟨(d,.lf (.osl nx))::L,(nx,.sl eid e xs)::H,nx+1⟩):JK X (.ops true all (⟨some d,.call {callee:=.value fo,args:=args,argTypes:=tys},ty,ps,af,none⟩::l)::r) QA ⟨L,H,nx⟩:=
 z48 (s:=⟨L,H,nx⟩) rfl rfl hu ha hc hf hb0 (w9 hd) k
variable {L:List (Nat×AV)}{H:List (Nat×HO)}{nx d:Nat}{ty:TypeId}{ps:String}{af:Array Edge}
def JL.strIx{bs:ByteArray}{y:Operand}{k:IntKind}(ht:X.P.underlying t=some .string)(hv:opd L y=some (c2,.val (.int k) v))(h2:allP c2)(h0:0≤v)(hn:v.toNat<bs.size)(hd:ltB d X.n=true)
  (kk:∀ z:Int,0≤z∧z≤255→JL X true all QA l ⟨(d,.val (.int .u8) z)::L,H,nx⟩):JL X true all QA (⟨some d,.index t (.const (.string bs)) y,ty,ps,af,none⟩::l) ⟨L,H,nx⟩:=by
 have hb:bs[v.toNat].toNat<256:=UInt8.toNat_lt _;refine q2o rfl rfl (w9 hd) (v:=.val (.int .u8) (bs[v.toNat].toNat:Int)) (s':=⟨L,H,nx⟩) (fun M ρ a w k1 k2=>?_) (kk _ ⟨by omega,by omega⟩);have e2:=(z8 (s:=⟨L,H,nx⟩) hv h2 k2).2;rw[v5] at e2;refine⟨ρ,w,.value (.int .u8 (bs[v.toNat].toNat:Int)),?_,Env.upTo.refl _ _,yym _,rfl,k1,trivial,.inl ⟨_,rfl,v5.2 rfl⟩⟩;have e3:(if 0≤v then bs[v.toNat]? else none)=some bs[v.toNat]:=by rw[if_pos h0,getElem?_pos]
 have e4:a.eval (.const (.string bs))=.string bs:=rfl;simp only[execOp,e2,e4,Instr.index,asIntOf,yye,yyf,run_underlying ht,yyb,e3]
def JK.strIx{r:List Fr}{t:TypeId}{bs:ByteArray}{y:Operand}{c2:List Prop}{k:IntKind}{v:Int}(ht:X.P.underlying t=some .string)(hv:opd L y=some (c2,.val (.int k) v))(h2:allP c2)(h0:0≤v)(hn:v.toNat<bs.size)(hd:ltB d X.n=true)
  (kk:∀ z:Int,0≤z∧z≤255→JK X (.ops true all l::r) QA ⟨(d,.val (.int .u8) z)::L,H,nx⟩):JK X (.ops true all (⟨some d,.index t (.const (.string bs)) y,ty,ps,af,none⟩::l)::r) QA ⟨L,H,nx⟩:=JL.strIx ht hv h2 h0 hn hd kk
end Ox
namespace Go.Proofs.YtjjkdjbbkagclaaGreatDoor
open Go Go.RowKit Ox Ox.Gl
attribute [local irreducible] JC JL JK JW
def fn296(x:Int):Ox.Fn Tryz.prog 296 (.acons (vI x) .anil) (·=vB false):=by refine Ox.Fn.intro xok Tryz.func296 rfl Tryz.call296 (yyc rfl) (fun E M0 up=>?_);refine z9 ?_;refine zK0 ?_;refine⟨.inl rfl,_,_,rfl,trivial,?_⟩;refine congrArg vB ?_;simp
def fn214(x y:Int):Ox.Fn Tryz.prog 214 (.acons (vI x) (.acons (vI y) .anil)) (·=vB (decide (x<y))):=by refine Ox.Fn.intro xok Tryz.func214 rfl Tryz.call214 (yyc rfl) (fun E M0 up=>?_);refine z9 ?_;have c1:=fn296 x;have c2:=fn296 y;obtain⟨b,hb⟩:∃ b,b=false:=⟨false,rfl⟩;rw[← hb] at c1 c2;refine zK23 ?_;refine⟨.inl rfl,_,_,rfl,trivial,?_⟩;refine congrArg vB ?_;simp[hb]
def str9:Tryz.prog.underlying 9=some .string:=by kernel_rfl
def fn218(x:Int)(h:0≤x∧x<256):Ox.Fn Tryz.prog 218 (.acons (.val (.int .u64) x) .anil) (fun r=>∃ n:Int,0≤n∧n≤1000∧r=vI n):=by refine Ox.Fn.intro xok Tryz.func218 rfl Tryz.call218 (yyc rfl) (fun E M0 up=>?_);refine z9 ?_;refine zK0 ?_;refine z5 rfl (fun hc=>absurd hc (by simp;omega)) (fun _=>?_);refine zK0 ?_;refine z5 rfl (fun hc=>absurd hc (by simp;omega)) (fun _=>?_);refine zK0 ?_;refine z5 rfl (fun hc=>absurd hc (by simp;omega)) (fun _=>?_);refine zK0 ?_;refine JK.strIx str9 rfl trivial h.1 (yxa (m:=256) (by omega) (by decide +kernel)) rfl fun z hz=>?_;refine zK0 ?_;refine⟨.inl rfl,_,_,rfl,trivial,?_⟩;exact⟨_,by show 0≤0+z;omega,by show 0+z≤1000;omega,rfl⟩
def fn128(x:Int)(h:0≤x∧x<256):Ox.Fn Tryz.prog 128 (.acons (.val (.int .u64) x) .anil) (fun r=>∃ n:Int,0≤n∧n≤1000∧r=vI n):=by refine Ox.Fn.intro xok Tryz.func128 rfl Tryz.call128 (yyc rfl) (fun E M0 up=>?_);refine z9 ?_;have c218:=fn218 x h;refine zK0 ?_;refine z5 rfl (fun hc=>by cases hc) (fun _=>?_);refine zK0 ?_;refine JK.cl rfl c218 rfl (fun r hr=>?_) trivial;obtain⟨n,h1,h2,rfl⟩:=hr;refine zK0 ?_;refine⟨.inl rfl,_,_,rfl,trivial,?_⟩;exact⟨n,h1,h2,rfl⟩
section
variable {E:World}{Mx M0:Mem}{nX:Nat}{rdX:Option Nat}{up:Nat→Nat→Value}{dp lab:Nat}{r:List Fr}{QA:Exit→S→Prop}
def vals_it(xs:List Int)(K:List Int→List (Nat×HO))(hlen:xs.length≤9223372036854775806)
  (hY:∀ pre s post,xs=pre++s::post→YO ⟨Tryz.prog,tys,ets,mts,E,Mx,nX,rdX,up,dp⟩ 16 lab (.acons (vI s) .anil) (K pre) 100 true (K (pre++[s])) 100)
  (k:∀ L,JK ⟨Tryz.prog,tys,ets,mts,E,M0,16,none,up,dp⟩ r QA ⟨L,K xs,100⟩) :
  JK ⟨Tryz.prog,tys,ets,mts,E,M0,16,none,up,dp⟩ (.code (lpC Tryz.f74.body)::.blk 0::r) QA ⟨[(0,.lf (.yld lab)),(5,vL xs),(6,vI xs.length),(7,vI 0)],K [],100⟩:=by
 refine JK.loop (fun i:Nat=>⟨[(0,.lf (.yld lab)),(5,vL xs),(6,vI xs.length),(7,vI (i:Int))],K (xs.take i),100⟩) (fun i=>i≤xs.length) (fun i=>xs.length-i) 0 (yyu _) (JW.refl _) fun i hi=>?_;have hsn:i<xs.length→xs.take (i+1)=xs.take i++[xs.getD i 0]:=fun h=>by rw[yy2 h,k8 xs h]
 have hps:i<xs.length→xs=xs.take i++xs.getD i 0::xs.drop (i+1):=fun h=>by rw[k8 xs h,List.getElem_cons_drop];simp
 have hfin:i=xs.length→xs.take i=xs:=fun e=>by rw[e,yxq]
 generalize xs.take i=pre at hsn hps hfin ⊢;refine zK0 ?_;refine z5 rfl (fun hc=>?_) (fun hc=>?_)
 ·replace hc:=zC hc;have hi':i<xs.length:=by omega
  have hz:xs.getD (Int.toNat (i:Int)) (Ty.int .i64).dflt=xs.getD i 0:=rfl;have y1:=hY pre _ _ (hps hi');rw[← hsn hi'] at y1;refine zK0 ?_;rw[hz];refine q80 (X:=⟨Tryz.prog,tys,ets,mts,E,Mx,nX,rdX,up,dp⟩) [0,5,6,7] y1 rfl rfl rfl (by simp[stayL,stayB,svL,lk]) trivial ?_;refine zK0 ?_;refine z5 rfl (fun h=>by cases h) (fun _=>?_);refine zK0 ?_;exact⟨i+1,JW.same ⟨rfl,rfl,rfl,rfl,trivial⟩,by omega,by omega⟩
 ·replace hc:=zC hc;rw[hfin (by omega)];refine zK0 ?_;exact k _
end
abbrev pSl(xs:List Int):AV:=.val (.ptr (.slice (.int .i64))) (some xs)
abbrev vSeq(xs:List Int):AV:=.fn 74 .anil (.acons (pSl xs) .anil)
abbrev LO126:List (Nat×AV):=[(2,.lf (.optr 0 []))]
def KV(c d:Code)(pre:List Int):List (Nat×HO):=[(3,.fr 0 [(13,.lf (.yld 2)),(2,.lf (.optr 0 []))]),(2,.loop .ready none #[7] c d 13 LO126),(0,.cell (.slice (.int .i64)) (.lf (.osl 4))),(4,.sl 3 (.int .i64) pre)]
def fn126(xs:List Int)(hlen:xs.length≤100):FnRow Tryz.prog 126 (.acons (.lf .nils) (.acons (vSeq xs) .anil)) 3 (.int .i64) xs:=by
 refine FnRow.intro (T:=tys) (ET:=ets) (MT:=mts) Tryz.func126 rfl Tryz.call126 (yyc rfl) (fun E M0 up=>?_);refine z9 ?_;refine zK0 ?_;refine q5u 0 3 (.int .i64) rfl ?_;refine q31 [2] rfl rfl rfl Tryz.func74 rfl Tryz.call74 (yyc rfl) trivial fun M3 up3 a1 b1 ha1 hb1=>?_;refine zK0 ?_;refine e8 (s':=⟨[(0,.lf (.yld 2)),(5,vL xs),(6,vI xs.length),(7,vI 0)],KV a1 b1 [],100⟩) (by exact zJ) ?_;refine vals_it (Mx:=M3) (nX:=16) (rdX:=none) xs (fun pre=>KV a1 b1 pre) (by omega) ?_ ?_
 ·intro pre s post hps;have hpl:pre.length≤100:=by have h1:=congrArg List.length hps;rw[yy7] at h1;omega
  refine YO.intro 0 13 (ps:=#[7]) (assign:=a1) (body:=b1) (nO:=13) (LO:=LO126) (L0:=[(7,vI s),(2,.lf (.optr 0 []))]) rfl rfl rfl ⟨3,_,rfl,rfl⟩ ⟨3,_,rfl,rfl⟩ fun M4 M5 up5 bl hup=>z9 (n6 ha1 ?_);refine zK0 ?_;refine g9 (q5m rfl rfl rfl rfl (z9 (n6 hb1 ?_)));refine zK0 ?_;refine g9 (bodyQ.of rfl rfl rfl rfl rfl rfl ⟨rfl,?_⟩);show JW _ ⟨[],KV a1 b1 (pre++[s]),100⟩ _;exact zJ
 ·intro L;refine g9 (rngQ.of (.inr rfl) rfl rfl rfl rfl rfl rfl rfl (q8p ?_));refine zK0 ?_;exact⟨.inl rfl,4,4,rfl,rfl,rfl⟩
def fn72(xs:List Int)(hlen:xs.length≤100):FnRow Tryz.prog 72 (.acons (vSeq xs) .anil) 3 (.int .i64) xs:=by refine FnRow.intro (T:=tys) (ET:=ets) (MT:=mts) Tryz.func72 rfl Tryz.call72 (yyc rfl) (fun E M0 up=>?_);refine z9 ?_;refine zK0 ?_;refine z5c rfl rfl trivial (fn126 xs hlen) ⟨trivial,⟨trivial,⟨trivial,trivial⟩⟩,trivial⟩ rfl ?_;refine zK0 ?_;exact⟨.inl rfl,2,0,rfl,rfl,rfl⟩
abbrev sH(D:List Int):List (Nat×HO):=[(3,.fr 2 []),(2,.fr 1 []),(1,.fr 0 [(3,.lf (.osl 0))]),(0,.sl 3 (.int .i64) D)]
def sort_in(D0:List Int)(hn:D0.length≤12)(h0:1≤D0.length)
  {E:World} {M0 M1 M2 M3:Mem} {nn n1 n2:Nat} {up up1 up2 up3:Nat→Nat→Value} {K:AV→List (Nat×AV)→List (Nat×HO)→Nat→Prop} (hK:K (resV .anil) [] [(2,.fr 1 []),(1,.fr 0 [(3,.lf (.osl 0))]),(0,.sl 3 (.int .i64) (srtD (D0.length-1) D0))] 4) :
  JK (Ctx.sub (Ctx.sub (Ctx.sub ⟨Tryz.prog,tys,ets,mts,E,M0,nn,none,up,0⟩ M1 n1 none up1) M2 n2 none up2) M3 Tryz.f208.ntmps none up3) [.code (Tryz.f208.body.getD .skip)]
   (inlQ (Ctx.sub (Ctx.sub ⟨Tryz.prog,tys,ets,mts,E,M0,nn,none,up,0⟩ M1 n1 none up1) M2 n2 none up2) Tryz.f208.results.toList K) ⟨[(0,.lf (.osl 0)),(1,vI 0),(2,vI D0.length)],sH D0,4⟩:=by
 refine cdf (fn:=Tryz.f208) rfl ?_;refine zK0 ?_;refine JK.loop (fun i:Nat=>⟨[(0,.lf (.osl 0)),(1,vI 0),(2,vI D0.length),(6,vI ((i:Int)+1))],sH (srtD i D0),4⟩) (fun i=>i+1≤D0.length) (fun i=>D0.length-i) 0 h0 (by exact zJ) fun i hi=>?_;have hlen:=q23 i D0;have hnx:srtD (i+1) D0=insD (i+1) (srtD i D0):=rfl;have hfin:i+1=D0.length→srtD i D0=srtD (D0.length-1) D0:=fun e=>by rw[← e];rfl
 generalize srtD i D0=D1 at hlen hnx hfin ⊢;refine zK0 ?_;refine z5 rfl (fun hc=>?_) (fun hc=>?_)
 ·replace hc:=zC hc;refine zK0 ?_;refine JK.loop (σ:=Nat×List Int) (fun q=>⟨[(0,.lf (.osl 0)),(1,vI 0),(2,vI D0.length),(6,vI ((i:Int)+1)),(7,vI (q.1:Int))],sH q.2,4⟩) (fun q=>q.1≤i+1∧q.2.length=D0.length∧insD q.1 q.2=insD (i+1) D1) (fun q=>q.1) (i+1,D1) ⟨yym _,hlen,rfl⟩ (by exact zJ) fun⟨j,D⟩ ⟨hj,hDl,hD⟩=>?_;dsimp only at hj hDl hD ⊢;have c214:=fn214 (D.getD (Int.toNat (j:Int)) (Ty.int .i64).dflt) (D.getD (Int.toNat ((j:Int)-1)) (Ty.int .i64).dflt);have hjl:(0:Int)≤j∧(j:Int)<D.length:=by omega
  refine zK0 ?_;refine p4 xk (Tryz.f208.body.getD .skip) ⟨[(0,.lf (.osl 0)),(1,vI 0),(2,vI D0.length),(6,vI ((i:Int)+1)),(7,vI (j:Int)),(30,vB (bif decide ((0:Int)<(j:Int)) then decide (D.getD (Int.toNat (j:Int)) (Ty.int .i64).dflt<D.getD (Int.toNat ((j:Int)-1)) (Ty.int .i64).dflt) else false))],sH D,4⟩ rfl 15 rfl ?_ ?_
  ·(refine q7 0 xk rfl rfl (q7 1 xk rfl rfl (q7 2 xk rfl rfl (q7 3 xk rfl rfl (q9 4 xk rfl rfl rfl (q9 5 xk rfl rfl rfl (q9 6 xk rfl rfl rfl (q9 8 xk rfl rfl rfl (q9 9 xk rfl rfl rfl (q9 10 xk rfl rfl rfl (q9 11 xk rfl rfl rfl ?_))))))))));refine j9 7 [12] xk StF.nil (BrF.one rfl rfl ?_ (BrF.one rfl rfl ?_ BrF.nil));(· (refine w6 xk rfl rfl rfl ?_);refine q8 ?_;refine zU 12 xk rfl rfl ?_;(refine w6 xk rfl rfl rfl ?_);refine q8 ?_;refine zU 13 xk rfl rfl ?_;(refine q0s rfl rfl (fun hgd=>c214) rfl trivial rfl ?_);refine q8 ?_;refine q7 14 xk rfl rfl ?_;refine w7 xk StF.nil ?_;(exact zJ));(· (refine w6 xk rfl rfl rfl ?_);refine q8 ?_;refine zU 7 xk rfl rfl ?_;(refine w6 xk rfl rfl rfl ?_);refine q8 ?_;refine zU 13 xk rfl rfl ?_;(refine q0s rfl rfl (fun hgd=>c214) rfl trivial rfl ?_);refine q8 ?_;refine q7 14 xk rfl rfl ?_;refine w7 xk StF.nil ?_;(exact zJ)))
  refine z5 rfl (fun hd=>?_) (fun hd=>?_)
  ·obtain⟨k,rfl⟩:∃ k,j=k+1:=by
    cases j with
    |zero=>cases hd
    |succ k=>exact⟨k,rfl⟩
   have h1:decide ((0:Int)<((k+1:Nat):Int))=true:=by rw[yys];omega
   have hkk:Int.toNat (((k+1:Nat):Int)-1)=k:=by omega
   rw[h1,cond_true,yys,hkk,Int.toNat_natCast] at hd;have hs:insD k (swp D (k+1) k)=insD (i+1) D1:=by rw[← hD];show _=if D.getD (k+1) 0<D.getD k 0 then insD k (swp D (k+1) k) else D;exact(if_pos (show D.getD (k+1) 0<D.getD k 0 from hd)).symm
   have hsw:(D.set (Int.toNat ((k+1:Nat):Int)) (D.getD (Int.toNat (((k+1:Nat):Int)-1)) (Ty.int .i64).dflt)).set (Int.toNat (((k+1:Nat):Int)-1)) (D.getD (Int.toNat ((k+1:Nat):Int)) (Ty.int .i64).dflt)=swp D (k+1) k:=by rw[hkk,Int.toNat_natCast];rfl
   have hsl:(D.set (Int.toNat ((k+1:Nat):Int)) (D.getD (Int.toNat (((k+1:Nat):Int)-1)) (Ty.int .i64).dflt)).length=D.length:=by simp
   have hjl2:(0:Int)≤((k+1:Nat):Int)-1∧((k+1:Nat):Int)-1<D.length:=by omega
   clear hkk h1 hd c214 hD;refine zK0 ?_;refine q0z xk (Tryz.f208.body.getD .skip) ⟨[(0,.lf (.osl 0)),(1,vI 0),(2,vI D0.length),(6,vI ((i:Int)+1)),(7,vI ((k+1:Nat):Int))],sH ((D.set (Int.toNat ((k+1:Nat):Int)) (D.getD (Int.toNat (((k+1:Nat):Int)-1)) (Ty.int .i64).dflt)).set (Int.toNat (((k+1:Nat):Int)-1)) (D.getD (Int.toNat ((k+1:Nat):Int)) (Ty.int .i64).dflt)),4⟩ rfl 18 rfl ?_ ?_
   ·(refine q7 0 xk rfl rfl (q7 1 xk rfl rfl (q7 2 xk rfl rfl (q7 3 xk rfl rfl (q7 4 xk rfl rfl (q7 5 xk rfl rfl (q7 6 xk rfl rfl (q7 7 xk rfl rfl (q7 8 xk rfl rfl (q7 10 xk rfl rfl (q7 11 xk rfl rfl (q7 12 xk rfl rfl (z7 9 xk rfl rfl (z7 13 xk rfl rfl (z7 14 xk rfl rfl (zU 15 xk rfl rfl ?_)))))))))))))));refine zK7 ?_;refine q8 ?_;refine q7 16 xk rfl rfl (zU 17 xk rfl rfl ?_);refine zK7 ?_;refine q8 ?_;refine w7 xk StF.nil ?_;(exact zJ))
   rw[hsw];have hsl2:(swp D (k+1) k).length=D0.length:=by rw[q97,hDl]
   generalize swp D (k+1) k=D' at hs hsl2 ⊢;refine zK0 ?_;exact⟨(k,D'),by exact zJ,⟨by omega,hsl2,hs⟩,yy9 k⟩
  ·have hs:D=insD (i+1) D1:=by
    rw[← hD];cases j with
    |zero=>rfl
    |succ k=>
     have h1:decide ((0:Int)<((k+1:Nat):Int))=true:=by rw[yys];omega
     have hkk:Int.toNat (((k+1:Nat):Int)-1)=k:=by omega
     rw[h1,cond_true,decide_eq_false_iff_not,hkk,Int.toNat_natCast] at hd;show _=if D.getD (k+1) 0<D.getD k 0 then insD k (swp D (k+1) k) else D;exact(if_neg (show ¬ D.getD (k+1) 0<D.getD k 0 from hd)).symm
   refine zK0 ?_;refine⟨i+1,?_,by omega,by omega⟩;rw[hnx,← hs];exact zJ
 ·replace hc:=zC hc;rw[hfin (by omega)];refine zK0 ?_;exact g9 (q5b rfl rfl rfl rfl hK)
def fn28s(xs:List Int):Ox.Fn Tryz.prog 28 (.acons (vL xs) .anil) (·=vSeq xs):=by
 refine Ox.Fn.intro xok Tryz.func28 rfl Tryz.call28 (yyc rfl) (fun E M0 up=>?_);refine z9 ?_;refine zK0 ?_;refine z5b ?_
 (refine q81 [0] [1] rfl ?_)
 refine zK0 ?_;refine⟨.inl rfl,_,_,rfl,trivial,?_⟩;rfl
def fn27(xs:List Int)(h1:1≤xs.length)(hlen:xs.length≤12):Ox.Fn Tryz.prog 27 (.acons (vSeq xs) .anil) (·=vL (srtD (xs.length-1) xs)):=by
 refine Ox.Fn.intro xok Tryz.func27 rfl Tryz.call27 (yyc rfl) (fun E M0 up=>?_);refine z9 ?_;have c72:=fn72 xs (by omega);have c128:=fn128 (xs.length:Int) (by omega);refine zK0 ?_;refine z8j rfl c72 rfl trivial ?_;refine zK0 ?_;refine q32 [3] rfl rfl trivial Tryz.func73 rfl Tryz.call73 (yyc rfl) rfl fun M1 up1=>?_;refine zK0 ?_;refine JK.cl rfl c128 rfl (fun r hr=>?_) trivial;obtain⟨n,n0,n1,rfl⟩:=hr;refine zK0 ?_;refine q32 [] rfl rfl trivial Tryz.func127 rfl Tryz.call127 (yyc rfl) rfl fun M2 up2=>?_;refine zK0 ?_;refine JK.loop (σ:=Unit) (fun _=>⟨[(0,.lf (.osl 0)),(1,vI 0),(2,vI xs.length)],[(2,.fr 1 []),(1,.fr 0 [(3,.lf (.osl 0))]),(0,.sl 3 (.int .i64) xs)],3⟩) (fun _=>True) (fun _=>0) () trivial (by exact zJ) fun _ _=>?_;refine zK0 ?_;refine z5 rfl (fun _=>?_) (fun h=>absurd h (by simp;omega));refine zK0 ?_;refine q32 [] rfl rfl trivial Tryz.func208 rfl Tryz.call208 (yyc rfl) rfl fun M3 up3=>?_;refine cdt (fn:=Tryz.f208) rfl ?_;show JK _ _ _ ⟨[(0,.lf (.osl 0)),(1,vI 0),(2,vI xs.length)],sH xs,4⟩;refine sort_in xs hlen h1 ?_;refine zK0 ?_;refine q28 rfl rfl rfl rfl ?_;refine zK0 ?_;refine g9 (q5b rfl rfl rfl rfl ?_)
 (refine q81 [0] [3] rfl ?_)
 refine zK0 ?_;refine⟨.inl rfl,_,_,rfl,trivial,?_⟩;rfl
def fn8{cs:List CoD}{ps:List (List Int)}(h:VG d cs ps)(ho:isO cs.length o):Ox.Fn Tryz.prog 8 (.acons (vG d cs ps) (.acons (vL o) .anil)) (·=vI (cheG d cs ps o)):=by
 refine Ox.Fn.intro xok Tryz.func8 rfl Tryz.call8 (yyc rfl) (fun E M0 up=>?_);refine z9 ?_;have hn1:=h.n1;have hn10:=h.n10;have hol:=ho.len;have c26:=fn26 h [] (fun x hx=>absurd hx yxg);have c28:=fn28s o;have c27:=fn27 o (by omega) (by omega);rw[z7o ho] at c27;have hrl:((List.range cs.length).map Int.ofNat).length=cs.length:=by simp
 have hrg:∀ i,i<cs.length→((List.range cs.length).map Int.ofNat).getD i 0=(i:Int):=fun i hi=>by simp[List.getD,hi]
 generalize (List.range cs.length).map Int.ofNat=rg at c27 hrl hrg;refine zK30 ?_;refine z5 rfl (fun h=>absurd h (by decide)) (fun _=>?_)
 (repeat (first|refine zs rfl ?_|refine zg rfl rfl rfl ?_|refine v6 ?_|refine w8 ?_|refine zc rfl (c28) rfl rfl ?_|refine ze rfl (c28) rfl ?_|refine zk rfl rfl (fun _=>c28) rfl rfl ?_|refine zc rfl (c27) rfl rfl ?_|refine ze rfl (c27) rfl ?_|refine zk rfl rfl (fun _=>c27) rfl rfl ?_))
 refine JK.loop (fun i:Nat=>⟨[(1,vL o),(2,.lf (.optr 0 [])),(5,vF d cs ps (winL d cs) (befL ps)),(7,vL rg),(26,vL rg),(27,vI rg.length),(28,vI (i:Int))],[(0,.cell glT (vG d cs ps))],1⟩) (fun i=>i≤cs.length) (fun i=>cs.length-i) 0 (yyu _) (by exact zJ) fun i hi=>?_;have hri:=hrg i;refine zK0 ?_;refine z5 rfl (fun hc=>?_) (fun hc=>?_)
 ·replace hc:=zC hc;have hi':i<cs.length:=by omega
  have hz:rg.getD (Int.toNat (i:Int)) (Ty.int .i64).dflt=(i:Int):=hri hi';refine zK0 ?_;rw[hz];refine z5 rfl (fun h=>absurd h (by simp)) (fun _=>?_);refine zK0 ?_;exact⟨i+1,by exact zJ,by omega,by omega⟩
 replace hc:=zC hc;clear hri hi hc;refine zK0 ?_;refine z5 rfl (fun h=>absurd h (by simp[hrl])) (fun _=>?_);have hE:cheG d cs ps o=if sufB d cs o o.length=true then(if rulB ps o=true then 0 else 16) else 21:=rfl;refine zK0 ?_;refine JK.loop (fun i:Nat=>⟨[(1,vL o),(5,vF d cs ps (winL d cs) (befL ps)),(43,vL o),(44,vI o.length),(45,vI (i:Int))],[],0⟩) (fun i=>i≤o.length∧sufB d cs o i=true) (fun i=>o.length-i) 0 ⟨yyu _,by simp[sufB]⟩ (by exact zJ) fun i ⟨hi,hs⟩=>?_;have hsn:=z82 (d:=d) (cs:=cs) o i;have hget:=fun q=>ho.get (i:=i) q;have hsuit:∀ c,c<cs.length→i<cs.length→decide (loR (winL d cs) c≤(i:Int)∧(i:Int)≤hiR (winL d cs) c)=suB d (cs.getD c coZ) i:=fun c hc q=>by rw[yyz,yys];exact h.suit hc (by omega) (by omega)
 have c29:=fun c (hc:c<10)=>fn29 (d:=d) (cs:=cs) (ps:=ps) (winL d cs) (befL ps) (c:=c) (i:Int) hc (q2s _ _);have hmono:=fun q:i+1≤o.length=>z83 (d:=d) (cs:=cs) (o:=o) q;refine zK0 ?_;refine z5 rfl (fun hc=>?_) (fun hc=>?_)
 ·replace hc:=zC hc;have hi':i<o.length:=by omega
  have hz:o.getD (Int.toNat (i:Int)) (Ty.int .i64).dflt=o.getD i 0:=rfl;obtain⟨g1,g2⟩:=hget hi';obtain⟨c,hc'⟩:∃ c:Nat,o.getD i 0=(c:Int):=⟨(o.getD i 0).toNat,by omega⟩;have hcl:c<cs.length:=by omega
  have c29:=c29 c (by omega);rw[hsuit c hcl (by omega)] at c29;rw[hc',Int.toNat_natCast] at hsn;rw[hc'] at hz;generalize suB d (cs.getD c coZ) (i:Int)=b at c29 hsn;refine zK0 ?_;rw[hz];refine zK25 ?_;refine z5 rfl (fun hd=>?_) (fun hd=>?_)
  ·refine zK0 ?_;refine⟨.inl rfl,_,_,rfl,trivial,?_⟩;rw[hE,if_neg fun k=>?_];have:=hmono (by omega) k;rw[hsn,hs] at this;rw[show b=true from by simpa using this] at hd;cases hd
  ·refine zK0 ?_;refine⟨i+1,by exact zJ,⟨by omega,?_⟩,by omega⟩;rw[hsn,hs];simpa using hd
 replace hc:=zC hc;have hs2:sufB d cs o o.length=true:=by rw[show o.length=i by omega];exact hs
 rw[if_pos hs2] at hE;clear hs2 hs hsn hget hsuit c29 hmono hc hi;have hrule:=h.rule ho;have hbv:=h.bef;have hbt:=h.bf_1024;have hb10:=h.bef_len;refine zK0 ?_;refine JK.loop (fun i:Nat=>⟨[(5,vF d cs ps (winL d cs) (befL ps)),(12,vS64 (liesB o i)),(56,vL o),(57,vI o.length),(58,vI (i:Int))],[],0⟩) (fun i=>i≤o.length∧∀ j,j<i→bfN ps (o.getD j 0).toNat ^^^ (bfN ps (o.getD j 0).toNat &&& liesB o j)=0) (fun i=>o.length-i) 0 ⟨yyu _,fun j hj=>absurd hj (Nat.not_lt_zero j)⟩ (by exact zJ) fun i ⟨hi,hall⟩=>?_;have hln:=fun q=>j08 (o:=o) (i:=i) q;have hll:=lies_lt ho i;have hp2:=z4a hn10;have hget:=fun q=>ho.get (i:=i) q;generalize hly:liesB o i=ly at hln hll ⊢;refine zK0 ?_;refine z5 rfl (fun hc=>?_) (fun hc=>?_)
 ·replace hc:=zC hc;have hi':i<o.length:=by omega
  have hz:o.getD (Int.toNat (i:Int)) (Ty.int .i64).dflt=o.getD i 0:=rfl;obtain⟨g1,g2⟩:=hget hi';obtain⟨c,hc'⟩:∃ c:Nat,o.getD i 0=(c:Int):=⟨(o.getD i 0).toNat,by omega⟩;have hcl:c<cs.length:=by omega
  have hln:=hln hi';have hbc:=hbv c;have hbc2:=hbt c;have hpc:=q07 (n:=c) (by omega);rw[hc',Int.toNat_natCast] at hln;rw[hc'] at hz;have e0:(befL ps).getD (Int.toNat (c:Int)) (Ty.int .u64).dflt=((bfN ps c:Nat):Int):=hbc;have hbb:0≤(befL ps).getD (Int.toNat (c:Int)) (Ty.int .u64).dflt∧(befL ps).getD (Int.toNat (c:Int)) (Ty.int .u64).dflt<1024:=by rw[e0];omega
  refine zK0 ?_;rw[hz];refine zK0 ?_;rw[e0];refine z5 rfl (fun hd=>?_) (fun hd=>?_)
  ·refine zK0 ?_;refine⟨.inl rfl,_,_,rfl,trivial,?_⟩;rw[hE,if_neg fun k=>?_];have:=hrule.1 k i hi';rw[hc',Int.toNat_natCast,hly] at this;rw[Int.toNat_natCast,Int.toNat_natCast,this] at hd;cases hd
  ·have hd0:bfN ps c ^^^ (bfN ps c &&& ly)=0:=by rw[Int.toNat_natCast,Int.toNat_natCast] at hd;simp at hd;exact hd
   refine zK0 ?_;refine⟨i+1,?_,⟨by omega,fun j hj=>?_⟩,by omega⟩
   ·rw[hln,vS_or];exact zJ
   ·rcases Nat.lt_succ_iff_lt_or_eq.1 hj with q|rfl
    ·exact hall j q
    ·rw[hc',Int.toNat_natCast,hly];exact hd0
 ·replace hc:=zC hc;refine zK0 ?_;refine⟨.inl rfl,_,_,rfl,trivial,?_⟩;rw[hE,if_pos (hrule.2 fun j hj=>hall j (by omega))]
end Go.Proofs.YtjjkdjbbkagclaaGreatDoor
namespace Ox
open Go Go.RowKit Ox.Rn
variable {X:Ctx}{s:S}{M:Mem}{ρ:Env}{a:Act}{w w':World}{QA:Exit→S→Prop}{all l:List Oper}{o:Oper}{md:Bool}
def LaidW(gs:List Gt)(w:World):Prop:=Laid gs fun b=>w.heap[b]?
variable{gs:List Gt}
def LaidW.later{E w:World}(h:LaidW gs E)(hb:Below E.heap.size E w):LaidW gs w:=z46 h fun b o e=>by show w.heap[b]?=some o;rw[hb.block b (yyk.1 e).1];exact e
abbrev FnE(gs:List Gt):=FnX fun _ w=>LaidW gs w
variable{args r:AV}{R:AV→Prop}
def FnE.toL{P:Program}(h:FnE gs P f args R):FnL (Laid gs) P f args R:=⟨h.call,fun M ρ w vs hz hM=>h.run M ρ w vs (z46 hz hM) hM⟩
def z25(hz:LaidW gs X.E)(h:callA X.T o.op s=some (cs,f,args))(hf:FnE gs X.P f args (·=r))(hr:r.scal=true)(hc:allP cs)(h1:SAT X M ρ s w)(h2:REG X M ρ s a)(hw:Below w.heap.size w w1) :
  ∃ az,(execOp a.eval o).run X.P w1=.ok (.enter f az) w1∧Calls X.P f az w1 (fun e w'=>e=.returned r.toV∧Below w.heap.size w w'):=by
 obtain⟨hb,vs,hvs,hrun⟩:=s7 h1 (q43 h1) h2 h hc;refine⟨vs.toArray,by rw[hrun,hf.call],(hf.run _ ρ w1 vs ((hz.later h1.below).later hw) (q68 hw) hvs hb).mono ?_⟩;rintro e w' ⟨v,r',M',rfl,rfl,_,hv,hbl,_⟩;exact⟨by rw[(x4 hr).1 hv],hw.trans (hbl.mono hw.size)⟩
def j3u(hz:LaidW gs X.E)(hg:o.guard=none)(h:callA X.T o.op s=some (cs,f,args))(hf:FnE gs X.P f args (·=r))(hr:r.scal=true)(hrb:r.bd 0)(hd:dstOk X.n o.dst)(hc:allP cs)
  (k:JL X md all QA l (putS o.dst r s)):JL X md all QA (o::l) s:=by
 cases md
 ·intro M ρ a w0 h1 h2;simp only[wpQuiet,Region.wanted,hg,if_true];refine⟨r.toV,fun w hw=>?_,k M ρ _ w0 (j0 h1) (h2.putO hd.spec (j6 (yyu _) hrb) ((x4 hr).2 rfl))⟩;obtain⟨az,e1,e2⟩:=z25 hz h hf hr hc h1 h2 hw;unfold Oper.quietAt;rw[e1];exact⟨rfl,e2⟩
 ·intro M ρ a w h1 h2;obtain⟨az,e1,e2⟩:=z25 hz h hf hr hc h1 h2 (Below.refl w.heap.size w);refine j4 (j7 hg) (x3 (q0y h) e1 e2 ?_);rintro e w' ⟨rfl,hbl⟩;exact⟨_,rfl,k M ρ _ w' (j0 (h1.later hbl)) (h2.putO hd.spec (j6 (yyu _) hrb) ((x4 hr).2 rfl))⟩
def JL.callE(hz:LaidW gs X.E)(hg:o.guard=none)(h:callA X.T o.op ⟨s.L,[],s.nx⟩=some (cs,f,args))(hf:FnE gs X.P f args R)(hd:dstOk X.n o.dst)(hc:allP cs)
  (k:∀ r,R r→JL X true all QA l (putS o.dst r s)):JL X true all QA (o::l) s:=by
 intro M ρ a w h1 h2;have h1':SAT X M ρ ⟨s.L,[],s.nx⟩ w:=⟨h1.below,h1.msub,h1.mnew,h1.mem,fun l o h=>by simp[lk] at h,fun l l' o o' b h=>by simp[lk] at h,fun l o b h=>by simp[lk] at h⟩;have h2':REG X M ρ ⟨s.L,[],s.nx⟩ a:=⟨h2.size,h2.defers,h2.reg⟩;obtain⟨hb,vs,hvs,hrun⟩:=s7 h1' (Mx:=M) ⟨Mem.le_refl M,fun l o b h=>by simp[lk] at h⟩ h2' h hc;refine j4 (j7 hg) (x3 (q0y h) (by rw[hrun,hf.call]) (hf.run M ρ w vs (hz.later h1.below) h1.mem hvs hb) ?_);rintro e w' ⟨v,r,M',rfl,hR,hrb,hv,hbl,hm,hin,hnew⟩;have h3:=h1.ext hbl hm hin hnew;have h4:REG X M' ρ s a:=h2.grow hm (Env.upTo.refl ρ s.nx) (yym _) fun D hD=>by rw[hnew D (yyk.1 (h1.mem _ _ hD)).1];exact hD
 exact⟨_,rfl,k r hR M' ρ _ w' (j0 h3) (h4.putO hd.spec (j6 (yyu _) hrb) hv)⟩
def j3v{az y r:AV}{args:Array Operand}{tys:Array TypeId}(hz:LaidW gs X.E)(hg:o.guard=none)(hop:o.op=.call {callee:=.value fo,args:=args,argTypes:=tys})
  (hu:opd s.L fo=some (cs1,.fn f .anil .anil)) (ha:opds s.L args.toList=some (cs2,az)) (hk:capK s.H az (fun cs y=>some (cs,y))=some (cs3,y)) (hf:FnE gs X.P f y (·=r)) (hfree:∀ M M' ρ v,r.rv M' ρ v→r.rv M ρ v) (hd:dstOk X.n o.dst) (hc:allP (cs1++(cs2++cs3)))
  (k:JL X true all QA l (putS o.dst r s)):JL X true all QA (o::l) s:=by
 intro M ρ a w h1 h2;rw[z6,z6] at hc;obtain⟨hub,eu⟩:=z8 hu hc.1 h2;simp only[AV.rv] at eu;obtain⟨fs,ks,k1,k2,k3⟩:=eu;obtain⟨hab,ea⟩:=n9 h2 ha hc.2.1;simp only[AV.rvs] at k1 k2;subst k1;subst k2;obtain⟨cs,y',hy,hyb,hyr⟩:=q2k h1 (q43 h1) hk;simp only[yya,yyp] at hy;obtain⟨rfl,rfl⟩:=hy;have hvs:=(hyr hc.2.2).2 _ ea;have hrun:(execOp a.eval o).run X.P w=.ok (.enter f (args.toList.map a.eval).toArray) w:=by
  have hmap:Array.map a.eval args=(List.map a.eval args.toList).toArray:=by rw[← yxf]
  obtain⟨dst,op,ty,pos,after,guard⟩:=o;simp only at hop;subst hop;simp only[execOp,resolve,k3,Deferred.ofValue,yye,yyf,yyb,invoke,hmap];rw[← hf.call];simp
 refine j4 (j7 hg) (x3 (by rw[hop];rfl) hrun (hf.run _ ρ w _ (hz.later h1.below) (q68 (Below.refl _ _)) hvs hyb) ?_);rintro e w' ⟨v,r',M',rfl,rfl,hrb,hv,hbl,_⟩;exact⟨_,rfl,k M ρ _ w' (j0 (h1.later hbl)) (h2.putO hd.spec (j6 (yyu _) hrb) (hfree M M' ρ v hv))⟩
def z8b(h:callA X.T o.op s=some (cs,f,.anil))(hf:FnZ (Laid gs) X.P f r.toV)(hz:LaidW gs X.E)(hc:allP cs)(h1:SAT X M ρ s w)(h2:REG X M ρ s a)(hw:Below w.heap.size w w1) :
  ∃ az,(execOp a.eval o).run X.P w1=.ok (.enter f az) w1∧Calls X.P f az w1 (fun e w'=>e=.returned r.toV∧Below w.heap.size w w'):=by
 obtain⟨hb,vs,hvs,hrun⟩:=s7 h1 (q43 h1) h2 h hc;simp only[AV.rvs] at hvs;subst hvs;refine⟨#[],by rw[hrun,hf.call],(hf.run (fun b=>w1.heap[b]?) w1 ((hz.later h1.below).later hw) (fun b o e=>e)).mono ?_⟩;rintro e w' ⟨rfl,hbl⟩;exact⟨rfl,hw.trans (hbl.mono hw.size)⟩
def z3k{g:Option Bool}(hg:match g with|none=>o.guard=none|some g=>gOf all s.L o.guard=some g∧g=true)(h:callA X.T o.op s=some (cs,f,.anil))(hf:FnZ (Laid gs) X.P f r.toV)(hz:LaidW gs X.E)(hr:r.scal=true)(hrb:r.bd 0)(hd:dstOk X.n o.dst)(hc:allP cs)
  (k:JL X true all QA l (putS o.dst r s)):JL X true all QA (o::l) s:=by
 intro M ρ a w h1 h2;have hw:Region.wanted o (yielded all.toArray a.tmps)=true:=by
  cases g with
  |none=>exact j7 hg
  |some g=>obtain⟨hg,rfl⟩:=hg;exact u7 hg h2
 obtain⟨az,e1,e2⟩:=z8b h hf hz hc h1 h2 (Below.refl w.heap.size w);refine j4 hw (x3 (q0y h) e1 e2 ?_);rintro e w' ⟨rfl,hbl⟩;exact⟨_,rfl,k M ρ _ w' (j0 (h1.later hbl)) (h2.putO hd.spec (j6 (yyu _) hrb) ((x4 hr).2 rfl))⟩
section
variable {op:Op}{L:List (Nat×AV)}{H:List (Nat×HO)}{nx d:Nat}{ty:TypeId}{ps:String}{af:Array Edge}{fr:List Fr}
variable{gs:List Gt}{r:AV}
def JK.scE(hz:LaidW gs X.E)(h:callA X.T op ⟨L,H,nx⟩=some (cs,f,args))(hf:FnE gs X.P f args (·=r))(hr:r.scal=true)(hd:ltB d X.n=true)(hc:allP cs)(k:JK X (.ops md all l::fr) QA ⟨(d,r)::L,H,nx⟩) :
  JK X (.ops md all (⟨some d,op,ty,ps,af,none⟩::l)::fr) QA ⟨L,H,nx⟩:=j3u (s:=⟨L,H,nx⟩) hz rfl h hf hr (q4g hr) (w9 hd) hc k
def j31(hz:LaidW gs X.E)(h:callA X.T op ⟨L,[],nx⟩=some (cs,f,args))(hf:FnE gs X.P f args (·=r))(hd:ltB d X.n=true)(hc:allP cs)(k:JK X (.ops true all l::fr) QA ⟨(d,r)::L,H,nx⟩) :
  JK X (.ops true all (⟨some d,op,ty,ps,af,none⟩::l)::fr) QA ⟨L,H,nx⟩:=JL.callE (s:=⟨L,H,nx⟩) hz rfl h hf (w9 hd) hc fun _ e=>e▸k
def j30{az y r:AV}{args:Array Operand}{tys:Array TypeId}(hz:LaidW gs X.E)
  (hu:opd L fo=some (cs1,.fn f .anil .anil)) (ha:opds L args.toList=some (cs2,az)) (hk:capK H az (fun cs y=>some (cs,y))=some (cs3,y)) (hf:FnE gs X.P f y (·=r)) (hfree:∀ M M' ρ v,r.rv M' ρ v→r.rv M ρ v) (hd:ltB d X.n=true) (hc:allP (cs1++(cs2++cs3)))
  (k:JK X (.ops true all l::fr) QA ⟨(d,r)::L,H,nx⟩):JK X (.ops true all (⟨some d,.call {callee:=.value fo,args:=args,argTypes:=tys},ty,ps,af,none⟩::l)::fr) QA ⟨L,H,nx⟩:=
 j3v (s:=⟨L,H,nx⟩) hz rfl rfl hu ha hk hf hfree (w9 hd) hc k
def j32(h:callA X.T op ⟨L,H,nx⟩=some (cs,f,.anil))(hf:FnZ (Laid gs) X.P f (.bool b))(hz:LaidW gs X.E)(hd:ltB d X.n=true)(hc:allP cs)
  (k:JK X (.ops true all l::fr) QA ⟨(d,(.val .bool b))::L,H,nx⟩):JK X (.ops true all (⟨some d,op,ty,ps,af,none⟩::l)::fr) QA ⟨L,H,nx⟩:=
 z3k (g:=none) (r:=(.val .bool b)) (s:=⟨L,H,nx⟩) rfl h hf hz rfl trivial (w9 hd) hc k
def z8i{g:Bool}{gg:Nat×Bool}(hg:gOf all L (some gg)=some g)(hgt:g=true)(h:callA X.T op ⟨L,H,nx⟩=some (cs,f,.anil))(hf:FnZ (Laid gs) X.P f (.bool b))(hz:LaidW gs X.E)(hd:ltB d X.n=true)(hc:allP cs)
  (k:JK X (.ops true all l::fr) QA ⟨(d,(.val .bool b))::L,H,nx⟩):JK X (.ops true all (⟨some d,op,ty,ps,af,some gg⟩::l)::fr) QA ⟨L,H,nx⟩:=
 z3k (g:=some g) (r:=(.val .bool b)) (s:=⟨L,H,nx⟩) ⟨hg,hgt⟩ h hf hz rfl trivial (w9 hd) hc k
end
variable {L:List (Nat×AV)}{H:List (Nat×HO)}{nx d d2:Nat}{ty ty2:TypeId}{ps ps2:String}{af af2:Array Edge}{rr:List Fr}
variable{x:Operand}{k:IntKind}
def JK.negW{m:Int}(hu:opd L x=some (c1,.val (.int k) m))(hc:allP c1)(hd:ltB d X.n=true)(kk:JK X (.ops md all l::rr) QA ⟨(d,.val (.int k) (k.wrap (0-m)))::L,H,nx⟩) :
  JK X (.ops md all (⟨some d,.unOp .neg t x,ty,ps,af,none⟩::l)::rr) QA ⟨L,H,nx⟩:=by
 refine JL.vq (o:=⟨some d,.unOp .neg t x,ty,ps,af,none⟩) (s:=⟨L,H,nx⟩) (v:=.val (.int k) (k.wrap (0-m))) rfl rfl (w9 hd) trivial (fun M ρ a w h1 h2=>?_) kk;have e:=(z8 (s:=⟨L,H,nx⟩) hu hc h2).2;rw[v5] at e;refine⟨.int k (k.wrap (0-m)),by rw[v5],fun w1=>?_⟩;simp only[execOp,e];rfl
def JL.mulW{x y:Operand}{u v:Int}(hu:opd L x=some (c1,.val (.int k) u))(hv:opd L y=some (c2,.val (.int k) v))(h1:allP c1)(h2:allP c2)(hd:ltB d X.n=true)
  (kk:JL X true all QA l ⟨(d,.val (.int k) (k.wrap (u*v)))::L,H,nx⟩):JL X true all QA (⟨some d,.binOp .mul t x y t',ty,ps,af,none⟩::l) ⟨L,H,nx⟩:=by
 refine q2o rfl rfl (w9 hd) (v:=.val (.int k) (k.wrap (u*v))) (s':=⟨L,H,nx⟩) (fun M ρ a w k1 k2=>?_) kk;have e1:=(z8 (s:=⟨L,H,nx⟩) hu h1 k2).2;have e2:=(z8 (s:=⟨L,H,nx⟩) hv h2 k2).2;rw[v5] at e1 e2;refine⟨ρ,w,.value (.int k (k.wrap (u*v))),?_,Env.upTo.refl _ _,yym _,rfl,k1,trivial,.inl ⟨_,rfl,v5.2 rfl⟩⟩;simp only[execOp,e1,e2,yye,x7,yyb,binOp,if_neg (fun h:k≠k=>h rfl)];rfl
def JK.mulW{t t':TypeId}{x y:Operand}{c1 c2:List Prop}{k:IntKind}{u v:Int}(hu:opd L x=some (c1,.val (.int k) u))(hv:opd L y=some (c2,.val (.int k) v))(h1:allP c1)(h2:allP c2)(hd:ltB d X.n=true)
  (kk:JK X (.ops true all l::rr) QA ⟨(d,.val (.int k) (k.wrap (u*v)))::L,H,nx⟩):JK X (.ops true all (⟨some d,.binOp .mul t x y t',ty,ps,af,none⟩::l)::rr) QA ⟨L,H,nx⟩:=JL.mulW hu hv h1 h2 hd kk
def JL.ldG{g:Nat}{e0:TypeId}{k kk':IntKind}{xs:List Int}{t te:TypeId}{i:Operand}(hX:XOK X)(hz:LaidW gs X.E)(hm:(g,e0,k,xs)∈gs)(hT:lk X.T t=some (.arr xs.length (.int k)))(hTe:lk X.T te=some (.int k))
  (hi:opd L i=some (c2,.val (.int kk') v)) (hc2:allP c2) (h0:0≤v) (hn:v.toNat<xs.length) (hd:ltB d X.n=true) (hd2:ltB d2 X.n=true) (kk:JL X true all QA l ⟨(d2,.val (.int k) (xs.getD v.toNat 0))::del L d,H,nx⟩) :
  JL X true all QA (⟨some d,.indexAddr t (.global g) i,ty,ps,af,none⟩::⟨some d2,.load te (.tmp d),ty2,ps2,af2,none⟩::l) ⟨L,H,nx⟩:=by
 intro M ρ a w h1 h2;obtain⟨cs,cty,fz,e3,e4,e5⟩:=hz.later h1.below _ hm;simp only at e3 e4 e5;have ei:=(z8 (s:=⟨L,H,nx⟩) hi hc2 h2).2;rw[v5] at ei;have ht:=hX.t _ _ hT;have hte:=hX.t _ _ hTe;have hr1:(execOp a.eval ⟨some d,.indexAddr t (.global g) i,ty,ps,af,none⟩).run X.P w=.ok (.value (.pointer (some ⟨g,v.toNat,none⟩))) w:=by have:=q06 (P:=X.P) ht (kk:=kk') (k:=v) (b:=g) (off:=0) h0 (by omega) w;have eg:a.eval (.global g)=.pointer (some ⟨g,0,none⟩):=rfl;simp only[execOp,eg,ei,yye,this,yyb,yyf];simp[Ty.size]
 have hreg:REG X M ρ ⟨del L d,H,nx⟩ (a.put (some d) (.pointer (some ⟨g,v.toNat,none⟩))):=⟨by simp[Act.put,h2.size],h2.defers,fun e y he=>by
  obtain⟨q1,q2⟩:=q3o he;have:=h2.reg e y q2;refine⟨this.1,?_⟩;have q3:((a.put (some d) (.pointer (some ⟨g,v.toNat,none⟩))).tmps.getD e Go.undef)=a.tmps.getD e Go.undef:=by simp only[Act.put,yyt];rw[yx6 (Ne.symm q1)]
  rw[q3];exact this.2⟩
 have hpd:(a.put (some d) (.pointer (some ⟨g,v.toNat,none⟩))).eval (.tmp d)=.pointer (some ⟨g,v.toNat,none⟩):=by simp only[Act.eval,Act.put,yyt];rw[yxz (by rw[h2.size];exact w9 hd)];rfl
 have hlt:v.toNat<cs.size:=by omega
 have hload:=r9 (P:=X.P) hte e3 (off:=v.toNat) (by simp only[Ty.size];omega);have hcell:(cs.toList.drop v.toNat).take (Ty.size (.int k))=[Value.int k (xs.getD v.toNat 0)]:=by have h6:=e5 v.toNat hn;rw[← yx0,yyl (by simpa using hlt)] at h6;rw[yxh (by simpa using hlt),Option.some.inj h6];rfl
 rw[hcell] at hload;have hr2:(execOp (a.put (some d) (.pointer (some ⟨g,v.toNat,none⟩))).eval ⟨some d2,.load te (.tmp d),ty2,ps2,af2,none⟩).run X.P w=.ok (.value (.int k (xs.getD v.toNat 0))) w:=by simp only[execOp,hpd,Instr.loadAt,Instr.sureAddr,yye,yyf,yyb,hload];rfl
 refine j4 (j7 rfl) (v4 rfl hr1 (j4 (j7 rfl) (v4 rfl hr2 ?_)));exact kk M ρ _ w (h1.regs _) (hreg.putO (d:=some d2) (dstOk.spec (w9 hd2)) trivial (v5.2 rfl))
def JK.ldG{gs:List Gt}{g:Nat}{e0:TypeId}{k kk':IntKind}{xs:List Int}{t te:TypeId}{i:Operand}{c2:List Prop}{v:Int}(hX:XOK X)(hz:LaidW gs X.E)(hm:(g,e0,k,xs)∈gs)(hT:lk X.T t=some (.arr xs.length (.int k)))(hTe:lk X.T te=some (.int k))
  (hi:opd L i=some (c2,.val (.int kk') v)) (hc2:allP c2) (h0:0≤v) (hn:v.toNat<xs.length) (hd:ltB d X.n=true) (hd2:ltB d2 X.n=true) (kk:JK X (.ops true all l::rr) QA ⟨(d2,.val (.int k) (xs.getD v.toNat 0))::del L d,H,nx⟩) :
  JK X (.ops true all (⟨some d,.indexAddr t (.global g) i,ty,ps,af,none⟩::⟨some d2,.load te (.tmp d),ty2,ps2,af2,none⟩::l)::rr) QA ⟨L,H,nx⟩:=JL.ldG hX hz hm hT hTe hi hc2 h0 hn hd hd2 kk
end Ox
namespace Go.Proofs.YtjjkdjbbkagclaaGreatDoor
open Go Go.RowKit Ox Ox.Gl Ox.Rn
attribute [local irreducible] JC JL JK JW
def tab64:List Int:=[0,1,56,2,57,49,28,3,61,58,42,50,38,29,17,4,62,47,59,36,45,43,51,22,53,39,33,30,24,18,12,5,63,55,48,27,60,41,37,16,46,35,44,21,52,32,23,11,54,26,40,15,34,20,31,10,25,14,19,9,13,8,7,6]
abbrev g64:Gt:=(1,5,.u8,tab64)
def tzI(b:Nat):Int:=IntKind.wrap .u64 ((((((b:Nat):Int)).toNat &&& (IntKind.wrap .u64 (0-(b:Int))).toNat:Nat):Int)*285870213051353865) / 2 ^ (58:Int).toNat
def tz_all:((List.range 1024).all fun b=>b==0||(decide (0≤tzI b∧tzI b<64)&&tab64.getD (tzI b).toNat 0==(lowB b:Int)&&decide (0≤IntKind.wrap .u64 (0-(b:Int))∧IntKind.wrap .u64 (0-(b:Int))≤18446744073709551615)&&decide (0≤IntKind.wrap .u64 ((((((b:Nat):Int)).toNat &&& (IntKind.wrap .u64 (0-(b:Int))).toNat:Nat):Int)*285870213051353865)∧IntKind.wrap .u64 ((((((b:Nat):Int)).toNat &&& (IntKind.wrap .u64 (0-(b:Int))).toNat:Nat):Int)*285870213051353865)≤18446744073709551615)))=true:=by decide +kernel
def tz_one{b:Nat}(h0:b≠0)(h:b<1024):(0≤tzI b∧tzI b<64)∧tab64.getD (tzI b).toNat 0=(lowB b:Int)∧(0≤IntKind.wrap .u64 (0-(b:Int))∧IntKind.wrap .u64 (0-(b:Int))≤18446744073709551615)∧(0≤IntKind.wrap .u64 ((((((b:Nat):Int)).toNat &&& (IntKind.wrap .u64 (0-(b:Int))).toNat:Nat):Int)*285870213051353865)∧IntKind.wrap .u64 ((((((b:Nat):Int)).toNat &&& (IntKind.wrap .u64 (0-(b:Int))).toNat:Nat):Int)*285870213051353865)≤18446744073709551615):=by
 have:=yy1.1 tz_all b (yyr.2 h);simp only[yy3,yyd,beq_iff_eq,yys] at this;rcases this with k|⟨⟨⟨k1,k2⟩,k3⟩,k4⟩
 ·exact absurd k h0
 ·exact⟨k1,k2,k3,k4⟩
variable {gs:List Gt}
def fn290(hg:g64∈gs)(b:Nat)(h0:b≠0)(h:b<1024):FnE gs Tryz.prog 290 (.acons (.val (.int .u64) (b:Int)) .anil) (·=vI (lowB b:Nat)):=by refine Ox.FnX.intro xok Tryz.func290 rfl Tryz.call290 (yyc rfl) (fun E M0 up hz=>?_);refine z9 ?_;obtain⟨⟨k1,k2⟩,k3,k4,k5⟩:=tz_one h0 h;have hl:=(z5l h0 h).2.1;refine zK0 ?_;refine z5 rfl (fun hc=>absurd hc (by simp;omega)) (fun _=>?_);unfold tzI at k1 k2 k3;refine zK0 ?_;refine JK.negW rfl trivial rfl ?_;generalize IntKind.wrap .u64 (0-(b:Int))=u at k1 k2 k3 k4 k5 ⊢;refine zK0 ?_;refine JK.mulW rfl rfl trivial trivial rfl ?_;generalize IntKind.wrap .u64 ((((((b:Nat):Int)).toNat &&& u.toNat:Nat):Int)*285870213051353865)=z at k1 k2 k3 k5 ⊢;refine zK0 ?_;refine JK.ldG (gs:=gs) xk hz hg rfl rfl rfl trivial k1 (by show _<64;omega) rfl rfl ?_;rw[k3];refine zK0 ?_;refine⟨.inl rfl,_,_,rfl,trivial,?_⟩;rfl
def fn204(hg:g64∈gs)(b:Nat)(h0:b≠0)(h:b<1024):FnE gs Tryz.prog 204 (.acons (.val (.int .u64) (b:Int)) .anil) (·=vI (lowB b:Nat)):=by refine Ox.FnX.intro xok Tryz.func204 rfl Tryz.call204 (yyc rfl) (fun E M0 up hz=>?_);refine z9 ?_;have c:=fn290 hg b h0 h;refine zK0 ?_;refine z5 rfl (fun hc=>by cases hc) (fun _=>?_);refine zK0 ?_;refine JK.scE (gs:=gs) hz rfl c rfl rfl trivial ?_;refine zK0 ?_;refine⟨.inl rfl,_,_,rfl,trivial,?_⟩;rfl
end Go.Proofs.YtjjkdjbbkagclaaGreatDoor
namespace Ox.Gl
def bdR(K:Int)(R:List RgD):Prop:=∀ i,(-K≤loR R i∧loR R i≤K)∧-K≤hiR R i∧hiR R i≤K
variable{R:List RgD}
def bdR.mono{K K':Int}(h:bdR K R)(hk:K≤K'):bdR K' R:=fun i=>by have:=h i;omega
def loS_lo(hc:c<R.length):loR (loS R c v) y=if y=c then v else loR R y:=by unfold loS loR;rw[q3l hc];split<;>rfl
def j0z(hc:c<R.length):hiR (loS R c v) y=hiR R y:=by
 unfold loS;show hiR (R.set c (v,hiR R c,())) y=hiR R y;generalize hw:hiR R c=w;unfold hiR;rw[q3l hc];split
 ·rename_i e1;subst e1;exact hw.symm
 ·rfl
def hiS_lo(hc:c<R.length):loR (hiS R c v) y=loR R y:=by
 unfold hiS;generalize hw:loR R c=w;unfold loR;rw[q3l hc];split
 ·rename_i e1;subst e1;exact hw.symm
 ·rfl
def hiS_hi(hc:c<R.length):hiR (hiS R c v) y=if y=c then v else hiR R y:=by unfold hiS;generalize loR R c=w;unfold hiR;rw[q3l hc];split<;>rfl
def bdR.lo(h:bdR K R)(hc:c<R.length)(hv:-(K+1)≤v∧v≤K+1):bdR (K+1) (loS R c v):=fun i=>by have:=h i;rw[loS_lo hc,j0z hc];split<;>omega
def bdR.hi(h:bdR K R)(hc:c<R.length)(hv:-(K+1)≤v∧v≤K+1):bdR (K+1) (hiS R c v):=fun i=>by have:=h i;rw[hiS_lo hc,hiS_hi hc];split<;>omega
def z3w{b:Nat}:(tenB b).length≤10:=by have:(tenB b).length≤(List.range 10).length:=yx1 ..;simpa using this
def z8w:tenB 0=[]:=by decide +kernel
def z5z(c:Nat)(R:List RgD)(a:Nat):pairR c R a=hiS (loS R c (max (loR R c) (loR R a+1))) a (min (hiR (loS R c (max (loR R c) (loR R a+1))) a) (hiR (loS R c (max (loR R c) (loR R a+1))) c-1)):=rfl
def j0y(R:List RgD)(c:Nat)(v:Int):(loS R c v).length=R.length:=by simp[loS]
def hiS_len(R:List RgD)(c:Nat)(v:Int):(hiS R c v).length=R.length:=by simp[hiS]
def VG.win_bd{cs:List CoD}{ps:List (List Int)}(h:VG d cs ps):bdR 102000 (winL d cs):=fun i=>by
 have hz:∀ n:Nat,n≤10→∀ i,(-102000≤loR (winS d cs.length cs n) i∧loR (winS d cs.length cs n) i≤102000)∧-102000≤hiR (winS d cs.length cs n) i∧hiR (winS d cs.length cs n) i≤102000:=by
  intro n hn i;by_cases hi:i<n
  ·unfold loR hiR;rw[q93 _ hi hn];have hok:okCo (cs.getD i coZ):=by
    by_cases hl:i<cs.length
    ·exact z56 h hl
    ·rw[yyg,yxp (by omega)];exact⟨⟨by decide,by decide,by decide⟩,by decide,by decide,by decide⟩
   obtain⟨⟨k1,k2,k3⟩,k4,k5,k6⟩:=hok;have h1:=h.d1;have h2:=h.n10;have b:∀ a:Int,-1000≤a∧a≤1000→-1001≤a / d∧a / d≤1001:=fun a ha=>by
    have h5:=Int.mul_ediv_add_emod a d;have h6:=Int.emod_nonneg a (show d≠0 by omega);have h7:=Int.emod_lt_of_pos a (show 0<d by omega);have h8:=h.d100;constructor
    ·refine Int.not_lt.1 fun hc=>?_;have:a<d*(-1000):=by have:d*(a / d)≤d*(-1002):=Int.mul_le_mul_of_nonneg_left (by omega) (by omega);omega
     omega
    ·refine Int.not_lt.1 fun hc=>?_;have:1*(a / d)≤d*(a / d):=Int.mul_le_mul_of_nonneg_right (by omega) (by omega);omega
   have b1:=b (cMs (cs.getD i coZ)-sHi (cs.getD i coZ)) (by omega);have b2:=b (sLo (cs.getD i coZ)-cLs (cs.getD i coZ)) (by omega);show(-102000≤max 0 (-((cMs (cs.getD i coZ)-sHi (cs.getD i coZ)) / d))∧max 0 (-((cMs (cs.getD i coZ)-sHi (cs.getD i coZ)) / d))≤102000)∧-102000≤min ((cs.length:Int)-1) ((sLo (cs.getD i coZ)-cLs (cs.getD i coZ)) / d)∧min ((cs.length:Int)-1) ((sLo (cs.getD i coZ)-cLs (cs.getD i coZ)) / d)≤102000;omega
  ·have e:(winS d cs.length cs n).getD i (0,0,())=(0,0,()):=by
    induction n with
    |zero=>show(List.replicate 10 ((0,0,()):RgD)).getD i (0,0,())=_;rw[yyg,List.getElem?_replicate];split<;>rfl
    |succ n ih=>rw[winS,q3l (by rw[q2s];omega),if_neg (by omega)];exact ih (by omega) (by omega)
   unfold loR hiR;rw[e];decide
 exact hz cs.length h.n10 i
def pairR_bd(h:bdR K R)(hc:c<R.length)(ha:a<R.length):bdR (K+2) (pairR c R a):=by rw[z5z];have h1:=h c;have h2:=h a;have h3:=h.lo hc (v:=max (loR R c) (loR R a+1)) (by omega);have h4:=h3 c;have h5:=h3 a;have:=h3.hi (c:=a) (by rw[j0y];exact ha) (v:=min (hiR (loS R c (max (loR R c) (loR R a+1))) a) (hiR (loS R c (max (loR R c) (loR R a+1))) c-1)) (by omega);exact this.mono (by omega)
def j1u{c:Nat}(hc:c<10):∀ (az:List Nat),(∀ a∈az,a<10)→∀ {K:Int} {R:List RgD},R.length=10→bdR K R→(az.foldl (pairR c) R).length=10∧bdR (K+2*az.length) (az.foldl (pairR c) R)
 |[],_,K,R,h1,h2=>⟨h1,by simpa using h2⟩
 |a::az,ha,K,R,h1,h2=>by obtain⟨k1,k2⟩:=j1u hc az (fun b hb=>ha b (yyi _ hb)) (R:=pairR c R a) (by rw[z17,h1]) (pairR_bd h2 (by omega) (by rw[h1];exact ha a yyj));exact⟨k1,k2.mono (by simp only[List.length_cons];omega)⟩
def round_bd(bf:Nat→Nat)(h1:R.length=10)(h2:bdR K R):(roundB bf R).length=10∧bdR (K+200) (roundB bf R):=by
 have key:∀ n,n≤10→((List.range n).foldl (fun R c=>(tenB (bf c)).foldl (pairR c) R) R).length=10∧bdR (K+20*n) ((List.range n).foldl (fun R c=>(tenB (bf c)).foldl (pairR c) R) R):=by
  intro n;induction n with
  |zero=>intro _;exact⟨h1,by simpa using h2⟩
  |succ n ih=>intro hn;obtain⟨k1,k2⟩:=ih (by omega);rw[List.range_succ,List.foldl_append];obtain⟨k3,k4⟩:=j1u (c:=n) (by omega) (tenB (bf n)) (fun a ha=>(z8x.1 ha).1) k1 k2;exact⟨k3,k4.mono (by have:=z3w (b:=bf n);omega)⟩
 obtain⟨k1,k2⟩:=key 10 (yym _);exact⟨k1,k2.mono (by omega)⟩
def j2p(bf:Nat→Nat):∀ (n:Nat) {K:Int} {R:List RgD},R.length=10→bdR K R→(bndF bf n R).length=10∧bdR (K+200*n) (bndF bf n R)
 |0,K,R,h1,h2=>⟨h1,by simpa[bndF] using h2⟩
 |n+1,K,R,h1,h2=>by
  obtain⟨k1,k2⟩:=round_bd bf h1 h2;unfold bndF;split
  ·exact⟨k1,k2.mono (by omega)⟩
  ·obtain⟨k3,k4⟩:=j2p bf n k1 k2;exact⟨k3,k4.mono (by omega)⟩
def inE(R:List RgD)(F T:Int)(c:Nat):Bool:=decide (F≤loR R c)&&decide (hiR R c≤T)
def inL(R:List RgD)(F T:Int)(n:Nat):List Int:=((List.range n).filter (inE R F T)).map Int.ofNat
def inL_succ(R:List RgD)(F T:Int)(n:Nat):inL R F T (n+1)=if inE R F T n=true then inL R F T n++[(n:Int)] else inL R F T n:=by
 unfold inL;rw[List.range_succ,List.filter_append,yx2];by_cases h:inE R F T n=true
 ·rw[if_pos h,List.filter_cons_of_pos h];rfl
 ·rw[if_neg h,yx8 h];simp
def inL_len(R:List RgD)(F T:Int)(n:Nat):(inL R F T n).length≤n:=by unfold inL;rw[yxd];exact Nat.le_trans (yx1 ..) (by simp)
def j1j(h:Sch P n p)(hb:Bnd n p (loR R) (hiR R)){F T:Int}(hne:0<(inL R F T n).length):((inL R F T n).length:Int)≤T-F+1:=by unfold inL at *;rw[yxd] at *;refine no_block h hb ((List.nodup_range).filter _) (fun c hc=>?_) (List.length_pos_iff.1 hne);obtain⟨h1,h2⟩:=yy5.1 hc;unfold inE at h2;rw[yyd,yys,yys] at h2;exact⟨yyr.1 h1,h2.1,h2.2⟩
end Ox.Gl
namespace Go.Proofs.YtjjkdjbbkagclaaGreatDoor
open Go Go.RowKit Ox Ox.Gl Ox.Rn
attribute [local irreducible] JC JL JK JW
def eqWi:EqT Tryz.prog wiT 83:=.of (by decide +kernel)
abbrev vW(W:List RgD):AV:=.val wiT W
abbrev stB(bf:Nat→Nat)(R:List RgD)(c:Nat):List RgD:=(List.range c).foldl (fun R c=>(tenB (bf c)).foldl (pairR c) R) R
def stB_succ(bf:Nat→Nat)(R:List RgD)(c:Nat):stB bf R (c+1)=(tenB (bf c)).foldl (pairR c) (stB bf R c):=by unfold stB;rw[List.range_succ,List.foldl_append];rfl
variable {gs:List Gt}
variable{cs:List CoD}{W:List RgD}
set_option maxHeartbeats 1000000 in
def fn116(hg:g64∈gs){ps:List (List Int)}(h:VG d cs ps)(hW:W.length=10)(hWb:bdR 102000 W):FnE gs Tryz.prog 116 (.acons (vF d cs ps W (befL ps)) .anil) (·=vW (bndF (bfN ps) cs.length W)):=by
 refine Ox.FnX.intro xok Tryz.func116 rfl Tryz.call116 (yyc rfl) (fun E M0 up hz'=>?_);refine z9 ?_;have hn10:=h.n10;have hbv:=h.bef;have hbt:=h.bf_1024;have hb10:=h.bef_len;generalize hF:bndF (bfN ps) cs.length W=F;generalize befL ps=B at hbv hb10 ⊢;generalize bfN ps=bf at hbv hbt hF;refine zK8 ?_;refine z7j (σ:=Nat×List RgD) (τ:=Unit) (fun q=>⟨[(0,vF d cs ps W B),(2,.lf (.optr 0 [])),(3,.lf (.optr 1 [])),(17,vI cs.length),(18,vI (q.1:Int))],[(0,.cell wiT (.val wiT wiT.dflt)),(1,.cell wiT (vW q.2))],2⟩)
  (fun q=>q.1≤cs.length∧q.2.length=10∧bdR (102000+1000*q.1) q.2∧bndF bf (cs.length-q.1) q.2=F) (fun q=>cs.length-q.1) (0,W) ⟨yyu _,hW,by simpa using hWb,by simpa using hF⟩ (by exact zJ)
  (fun _=>⟨[(2,.lf (.optr 0 [])),(3,.lf (.optr 1 []))],[(0,.cell wiT (.val wiT wiT.dflt)),(1,.cell wiT (vW F))],2⟩) (fun _=>True) (fun _ _=>?_) fun⟨i,R⟩ ⟨hi,hR,hRb,hRF⟩=>?_
 ·refine zK8 ?_;refine⟨.inl rfl,_,_,rfl,trivial,?_⟩;rfl
 dsimp only at hi hR hRb hRF ⊢;refine zK8 ?_;refine z5 rfl (fun hc=>?_) (fun hc=>?_)
 ·replace hc:=zC hc;have hic:i<cs.length:=by omega
  obtain⟨k,hk⟩:∃ k,cs.length-i=k+1:=⟨cs.length-i-1,by omega⟩;have hk2:cs.length-(i+1)=k:=by omega
  rw[hk] at hRF;have hFe:(if roundB bf R=R then roundB bf R else bndF bf k (roundB bf R))=F:=hRF;refine zK8 ?_;refine JK.loop (fun c:Nat=>⟨[(0,vF d cs ps W B),(2,.lf (.optr 0 [])),(3,.lf (.optr 1 [])),(4,.lf (.optr 2 [])),(17,vI cs.length),(18,vI (i:Int)),(24,.val bfT B),(25,vI (c:Int))],[(0,.cell wiT (.val wiT wiT.dflt)),(1,.cell wiT (vW (stB bf R c))),(2,.cell wiT (vW R))],3⟩)
   (fun c=>c≤10∧(stB bf R c).length=10∧bdR (102000+1000*i+50*c) (stB bf R c)) (fun c=>10-c) 0 ⟨yyu _,hR,by simpa[stB] using hRb⟩ (by exact zJ) fun c ⟨hc10,hSl,hSb⟩=>?_
  have hS:=stB_succ bf R c;have hS10:c=10→stB bf R c=roundB bf R:=fun e=>by rw[e];rfl
  generalize stB bf R c=S at hSl hSb hS hS10 ⊢;refine zK8 ?_;refine z5 rfl (fun hc=>?_) (fun hc=>?_)
  ·replace hc:=zC hc;have hcl:c<10:=by omega
   have hz:B.getD (Int.toNat (c:Int)) (Ty.int .u64).dflt=((bf c:Nat):Int):=hbv c;have hbc:=hbt c;refine zK8 ?_;rw[hz];refine JK.loop (σ:=Nat×List RgD) (fun q=>⟨[(0,vF d cs ps W B),(2,.lf (.optr 0 [])),(3,.lf (.optr 1 [])),(4,.lf (.optr 2 [])),(5,vI (c:Int)),(6,vS64 q.1),(17,vI cs.length),(18,vI (i:Int)),(24,.val bfT B),(25,vI (c:Int))],[(0,.cell wiT (.val wiT wiT.dflt)),(1,.cell wiT (vW q.2)),(2,.cell wiT (vW R))],3⟩)
    (fun q=>q.1<1024∧(tenB q.1).foldl (pairR c) q.2=stB bf R (c+1)∧q.2.length=10∧bdR (102000+1000*i+50*c+2*(10-((tenB q.1).length:Int))) q.2) (fun q=>q.1) (bf c,S)
    ⟨hbc,hS.symm,hSl,hSb.mono (by have:=z3w (b:=bf c);dsimp only;omega)⟩ (by exact zJ) fun⟨b,Q⟩ ⟨hb,hT,hQl,hQb⟩=>?_
   dsimp only at hb hT hQl hQb ⊢;refine zK8 ?_;refine z5 rfl (fun hd=>?_) (fun hd=>?_)
   ·have hb0:b≠0:=by simpa using hd
    obtain⟨t1,t2,t3,t4⟩:=z5l hb0 hb;have c204:=fn204 hg b hb0 hb;have htl:=z3w (b:=b);have htl2:((tenB b).length:Int)=((tenB (b &&& (b-1))).length:Int)+1:=by rw[t1];simp
    rw[t1,List.foldl_cons,z5z] at hT;generalize lowB b=a at t2 hT c204;have hlo:=hQb c;have hlo2:=hQb a;have hbnd:bdR (102000+1000*i+50*c+2*(10-((tenB b).length:Int))+1) (loS Q c (max (loR Q c) (loR Q a+1))):=hQb.lo (by omega) (by omega);have hQ2l:(loS Q c (max (loR Q c) (loR Q a+1))).length=10:=by rw[j0y,hQl]
    have hbb:((((b:Nat):Int).toNat &&& ((b:Int)-1).toNat:Nat):Int)=((b &&& (b-1):Nat):Int):=by rw[Int.toNat_natCast,show((b:Int)-1).toNat=b-1 by omega]
    have hbi:(0:Int)≤(b:Int)-1∧(b:Int)-1<1024:=by omega
    refine zK8 ?_;refine JK.scE (gs:=gs) hz' rfl c204 rfl rfl trivial ?_;refine zK8 ?_;rw[hbb];have q1:-200000≤(Q.getD (Int.toNat (c:Int)) rgT.dflt).1∧(Q.getD (Int.toNat (c:Int)) rgT.dflt).1≤200000:=by show -200000≤loR Q c∧loR Q c≤200000;omega
    have q2:-200000≤(Q.getD (Int.toNat (a:Int)) rgT.dflt).1∧(Q.getD (Int.toNat (a:Int)) rgT.dflt).1≤200000:=by show -200000≤loR Q a∧loR Q a≤200000;omega
    refine p4 xk (Tryz.f116.body.getD .skip) ⟨[(0,vF d cs ps W B),(2,.lf (.optr 0 [])),(3,.lf (.optr 1 [])),(4,.lf (.optr 2 [])),(5,vI (c:Int)),(6,vS64 (b &&& (b-1))),(7,vI (a:Int)),(17,vI cs.length),(18,vI (i:Int)),(24,.val bfT B),(25,vI (c:Int))],[(0,.cell wiT (.val wiT wiT.dflt)),(1,.cell wiT (vW (loS Q c (max (loR Q c) (loR Q a+1))))),(2,.cell wiT (vW R))],3⟩ rfl 14 rfl ?_ ?_
    ·(refine q7 0 xk rfl rfl (q7 1 xk rfl rfl (q7 2 xk rfl rfl (q7 3 xk rfl rfl (q7 5 xk rfl rfl (q7 6 xk rfl rfl (q7 7 xk rfl rfl (z7 4 xk rfl rfl (z7 8 xk rfl rfl (z7 9 xk rfl rfl (z7 10 xk rfl rfl (z7 11 xk rfl rfl (z7 12 xk rfl rfl (zU 13 xk rfl rfl ?_)))))))))))));refine zK31 ?_;refine q8 ?_;refine w7 xk ?_ ?_;exact zS;(exact zJ))
    have hh:=hQb c;have hh2:=hQb a;have hi1:hiR (loS Q c (max (loR Q c) (loR Q a+1))) c=hiR Q c:=j0z (by omega);have hi2:hiR (loS Q c (max (loR Q c) (loR Q a+1))) a=hiR Q a:=j0z (by omega);rw[← hi1] at hh;rw[← hi2] at hh2;generalize loS Q c (max (loR Q c) (loR Q a+1))=Q2 at hT hbnd hQ2l hh hh2 ⊢;clear hi1 hi2 q1 q2 hlo hlo2 hQb hQl;have hbnd2:bdR (102000+1000*i+50*c+2*(10-((tenB b).length:Int))+1+1) (hiS Q2 a (min (hiR Q2 a) (hiR Q2 c-1))):=hbnd.hi (by omega) (by omega);have hQ3l:(hiS Q2 a (min (hiR Q2 a) (hiR Q2 c-1))).length=10:=by rw[hiS_len,hQ2l]
    have q3:-200000≤(Q2.getD (Int.toNat (c:Int)) rgT.dflt).2.1∧(Q2.getD (Int.toNat (c:Int)) rgT.dflt).2.1≤200000:=by show -200000≤hiR Q2 c∧hiR Q2 c≤200000;omega
    have q4:-200000≤(Q2.getD (Int.toNat (a:Int)) rgT.dflt).2.1∧(Q2.getD (Int.toNat (a:Int)) rgT.dflt).2.1≤200000:=by show -200000≤hiR Q2 a∧hiR Q2 a≤200000;omega
    refine q4d xk (Tryz.f116.body.getD .skip) rfl 14 rfl ?_
    (refine q7 0 xk rfl rfl (q7 1 xk rfl rfl (q7 2 xk rfl rfl (q7 3 xk rfl rfl (q7 5 xk rfl rfl (q7 6 xk rfl rfl (q7 7 xk rfl rfl (z7 4 xk rfl rfl (z7 8 xk rfl rfl (z7 9 xk rfl rfl (z7 10 xk rfl rfl (z7 11 xk rfl rfl (z7 12 xk rfl rfl (zU 13 xk rfl rfl ?_)))))))))))));refine zK31 ?_;refine q8 ?_;refine w7 xk ?_ ?_;exact zS;((refine zK8 ?_;refine⟨(b &&& (b-1),hiS Q2 a (min (hiR Q2 a) (hiR Q2 c-1))),by exact zJ,⟨t4,hT,hQ3l,hbnd2.mono (by dsimp only;omega)⟩,t3⟩)))
   ·have hb0:b=0:=by simpa using hd
    subst hb0;rw[z8w,List.foldl_nil] at hT;rw[z8w] at hQb;refine zK8 ?_;refine⟨c+1,?_,⟨by omega,by rw[← hT];exact hQl,by rw[← hT];exact hQb.mono (by simp;omega)⟩,by omega⟩;rw[← hT];exact zJ
  ·replace hc:=zC hc;have hS10:=hS10 (by omega);rw[hS10] at hSl hSb ⊢;generalize roundB bf R=S2 at hFe hSl hSb ⊢;refine zK8 ?_;refine z5 rfl (fun hd=>?_) (fun hd=>?_)
   ·have e:S2=R:=y5.1 hd;rw[if_pos e] at hFe;rw[hFe];refine zK8 ?_;exact⟨(),by exact zJ,trivial⟩
   ·have e:¬ S2=R:=fun e=>by rw[y5.2 e] at hd;cases hd
    rw[if_neg e] at hFe;refine zK8 ?_;exact⟨(i+1,S2),by exact zJ,⟨by dsimp only;omega,hSl,hSb.mono (by dsimp only;omega),by dsimp only;rw[hk2];exact hFe⟩,by dsimp only;omega⟩
 ·replace hc:=zC hc;have hin:i=cs.length:=by omega
  have hFR:R=F:=by rw[← hRF,hin,Nat.sub_self];rfl
  rw[hFR];refine zK8 ?_;exact⟨(),by exact zJ,trivial⟩
abbrev bkT:Ty:=.cons (.int .i64) (.cons (.int .i64) (.cons (.slice (.int .i64)) .nil))
abbrev bkZ:bkT.den:=(0,0,[],())
abbrev vT2b:AV:=.tup (.acons (.val bkT bkZ) (.acons (vB false) .anil))
abbrev bkA:AV:=.mix (vI 0) (.mix (vI 0) (.mix (.lf .nils) (.val .nil ())))
abbrev HK(R:List RgD):List (Nat×HO):=[(0,.cell bkT bkA),(1,.cell wiT (vW R)),(2,.cell bkT bkA)]
abbrev HK3(R:List RgD)(F T:Int)(D:List Int):List (Nat×HO):=(4,.sl 3 (.int .i64) D)::(3,.cell bkT (.mix (vI F) (.mix (vI T) (.mix (.lf (.osl 4)) (.val .nil ())))))::HK R
set_option maxHeartbeats 1000000 in
def fn80(hg:g64∈gs){ps:List (List Int)}(h:VG d cs ps)(hW:W.length=10)(hWb:bdR 102000 W)(hp:Sch (pG ps) cs.length p)(hpW:Bnd cs.length p (loR W) (hiR W)) :
  FnE gs Tryz.prog 80 (.acons (vF d cs ps W (befL ps)) .anil) (·=vT2b):=by
 refine Ox.FnX.intro xok Tryz.func80 rfl Tryz.call80 (yyc rfl) (fun E M0 up hz=>?_);refine z9 ?_;have hn10:=h.n10;have c116:=fn116 hg h hW hWb;obtain⟨hR1,hR2⟩:=j2p (bfN ps) cs.length hW hWb;obtain⟨_,hR4⟩:=z26 hp hn10 (bf:=bfN ps) (fun c a hb=>by rw[q4u] at hb;exact⟨(h.lt hb).2.1,(h.lt hb).1,hb⟩) cs.length hW hpW;replace hR2:=hR2.mono (K':=110000) (by omega);generalize bndF (bfN ps) cs.length W=R at c116 hR1 hR2 hR4;have hblk:=fun F T hne=>j1j hp hR4 (F:=F) (T:=T) hne;generalize befL ps=B at c116 ⊢;obtain⟨f,hf⟩:∃ f,f=false:=⟨false,rfl⟩;refine zK0 ?_;refine j31 (gs:=gs) hz rfl c116 rfl trivial ?_;refine zK0 ?_;refine JK.loop (fun i:Nat=>⟨[(0,vF d cs ps W B),(2,.lf (.optr 0 [])),(3,vB false),(4,.lf (.optr 1 [])),(5,.lf (.optr 2 [])),(6,vB f),(19,vI cs.length),(20,vI (i:Int))],HK R,3⟩) (fun i=>i≤cs.length) (fun i=>cs.length-i) 0 (yyu _) (by rw[hf];exact zJ) fun i hi=>?_;refine zK0 ?_;refine z5 rfl (fun hc=>?_) (fun hc=>?_)
 ·replace hc:=zC hc;have hi10:i<10:=by omega
  refine zK0 ?_;refine JK.loop (fun k:Nat=>⟨[(0,vF d cs ps W B),(2,.lf (.optr 0 [])),(3,vB false),(4,.lf (.optr 1 [])),(5,.lf (.optr 2 [])),(6,vB f),(7,vI (i:Int)),(19,vI cs.length),(20,vI (i:Int)),(28,vI cs.length),(29,vI (k:Int))],HK R,3⟩) (fun k=>k≤cs.length) (fun k=>cs.length-k) 0 (yyu _) (by exact zJ) fun k hk=>?_;refine zK0 ?_;refine z5 rfl (fun hd=>?_) (fun hd=>?_)
  ·replace hd:=zC hd;have hk10:k<10:=by omega
   have hF:=hR2 i;have hT:=hR2 k;refine zK0 ?_;have q1:(R.getD (Int.toNat (i:Int)) rgT.dflt).1=loR R i:=rfl;have q2:(R.getD (Int.toNat (k:Int)) rgT.dflt).2.1=hiR R k:=rfl;refine p4 xk (Tryz.f80.body.getD .skip) ⟨[(0,vF d cs ps W B),(2,.lf (.optr 0 [])),(3,vB false),(4,.lf (.optr 1 [])),(5,.lf (.optr 2 [])),(6,vB f),(7,vI (i:Int)),(8,vI (k:Int)),(9,.lf (.optr 3 [])),(19,vI cs.length),(20,vI (i:Int)),(28,vI cs.length),(29,vI (k:Int))],(3,.cell bkT (.mix (vI (loR R i)) (.mix (vI (hiR R k)) (.mix (.lf .nils) (.val .nil ())))))::HK R,4⟩ rfl 11 rfl ?_ ?_
   ·(refine q7 0 xk rfl rfl (q7 1 xk rfl rfl (q7 2 xk rfl rfl (q7 4 xk rfl rfl (q7 5 xk rfl rfl (q7 6 xk rfl rfl (z7 3 xk rfl rfl (z7 7 xk rfl rfl ?_)))))));refine j9 8 [9] xk ?_ ?_;exact zS;refine(BrF.one rfl rfl ?_ (BrF.one rfl rfl ?_ BrF.nil));(· refine zK19 ?_;refine q8 ?_;refine zU 9 xk rfl rfl ?_;(refine q2p xk rfl rfl ?_);refine q8 ?_;refine zU 10 xk rfl rfl ?_;exact zB7);(· (refine q2p xk rfl rfl ?_);refine q8 ?_;refine zU 8 xk rfl rfl ?_;refine zK19 ?_;refine q8 ?_;refine zU 10 xk rfl rfl ?_;refine zK7 ?_;refine q8 ?_;refine w7 xk StF.nil ?_;(exact zJ)))
   generalize loR R i=F at hF ⊢;generalize hiR R k=T at hT ⊢;refine n5 3 [true,true,false] 3 (.int .i64) rfl rfl ?_;refine zK0 ?_;refine JK.loop (fun c:Nat=>⟨[(0,vF d cs ps W B),(2,.lf (.optr 0 [])),(3,vB false),(4,.lf (.optr 1 [])),(5,.lf (.optr 2 [])),(6,vB f),(7,vI (i:Int)),(8,vI (k:Int)),(9,.lf (.optr 3 [])),(19,vI cs.length),(20,vI (i:Int)),(28,vI cs.length),(29,vI (k:Int)),(46,vI cs.length),(47,vI (c:Int))],HK3 R F T (inL R F T c),5⟩) (fun c=>c≤cs.length) (fun c=>cs.length-c) 0 (yyu _) (by exact zJ) fun c hcc=>?_;have hsn:=inL_succ R F T c;have hll:=inL_len R F T c;have hb2:=hblk F T;have hlast:c=cs.length→inL R F T c=inL R F T cs.length:=fun e=>by rw[e]
   generalize inL R F T c=D at hsn hll hlast ⊢;refine zK0 ?_;refine z5 rfl (fun he=>?_) (fun he=>?_)
   ·replace he:=zC he;have hc10:c<10:=by omega
    refine zK0 ?_;refine p4 xk (Tryz.f80.body.getD .skip) ⟨[(0,vF d cs ps W B),(2,.lf (.optr 0 [])),(3,vB false),(4,.lf (.optr 1 [])),(5,.lf (.optr 2 [])),(6,vB f),(7,vI (i:Int)),(8,vI (k:Int)),(9,.lf (.optr 3 [])),(19,vI cs.length),(20,vI (i:Int)),(28,vI cs.length),(29,vI (k:Int)),(10,vI (c:Int)),(46,vI cs.length),(47,vI (c:Int)),(65,vB (bif decide (F≤loR R c) then decide (hiR R c≤T) else false))],HK3 R F T D,5⟩ rfl 16 rfl ?_ ?_
    ·(refine q7 0 xk rfl rfl (q7 1 xk rfl rfl (q7 2 xk rfl rfl (q7 4 xk rfl rfl (z7 3 xk rfl rfl (z7 5 xk rfl rfl (z7 6 xk rfl rfl (z7 7 xk rfl rfl ?_)))))));refine j9 8 [12] xk ?_ ?_;exact zS;refine(BrF.one rfl rfl ?_ (BrF.one rfl rfl ?_ BrF.nil));(· (refine w6 xk rfl rfl rfl ?_);refine q8 ?_;refine q9 9 xk rfl rfl rfl (q9 10 xk rfl rfl rfl (q9 12 xk rfl rfl rfl ?_));refine j9 11 [13] xk ?_ ?_;exact zS;refine(BrF.one rfl rfl ?_ (BrF.one rfl rfl ?_ BrF.nil));(· (refine w6 xk rfl rfl rfl ?_);refine q8 ?_;refine zU 13 xk rfl rfl ?_;exact zB1);(· (refine w6 xk rfl rfl rfl ?_);refine q8 ?_;refine zU 11 xk rfl rfl ?_;exact zB1));(· (refine w6 xk rfl rfl rfl ?_);refine q8 ?_;refine q9 8 xk rfl rfl rfl (q9 9 xk rfl rfl rfl (q9 10 xk rfl rfl rfl ?_));refine j9 11 [13] xk ?_ ?_;exact zS;refine(BrF.one rfl rfl ?_ (BrF.one rfl rfl ?_ BrF.nil));(· (refine w6 xk rfl rfl rfl ?_);refine q8 ?_;refine zU 13 xk rfl rfl ?_;exact zB1);(· (refine w6 xk rfl rfl rfl ?_);refine q8 ?_;refine zU 11 xk rfl rfl ?_;exact zB1)))
    refine z5 rfl (fun hx=>?_) (fun hx=>?_)
    ·have hin:inE R F T c=true:=by unfold inE;cases h1:decide (F≤loR R c)<;>rw[h1] at hx<;>simpa using hx
     rw[if_pos hin] at hsn;have htk:D++[(c:Int)]=List.take (Int.toNat (D.length:Int)) D++[(c:Int)]:=by rw[Int.toNat_natCast,yxq]
     rw[htk] at hsn;refine zK0 ?_;refine⟨c+1,?_,by omega,by omega⟩;rw[hsn];exact zJ
    ·have hin:¬ inE R F T c=true:=by unfold inE;cases h1:decide (F≤loR R c)<;>rw[h1] at hx<;>simpa using hx
     rw[if_neg hin] at hsn;refine zK0 ?_;refine⟨c+1,?_,by omega,by omega⟩;rw[hsn];exact zJ
   ·replace he:=zC he;have hlast:=hlast (by omega);rw[← hlast] at hb2;clear hlast hsn;refine zK0 ?_;refine z5 rfl (fun h=>absurd h (by rw[hf];simp)) (fun _=>?_);refine zK0 ?_;refine z5 rfl (fun hx=>absurd hx ?_) (fun _=>?_)
    ·by_cases h1:(0:Int)<(D.length:Int)
     ·have h2:=hb2 (by omega);have h3:¬ (T-F+1<(D.length:Int)):=by omega
      simp[h1,h3]
     ·simp[h1];exact fun _=>hb2
    clear hb2;refine zK0 ?_;exact⟨k+1,by exact zJ,by omega,by omega⟩
  ·replace hd:=zC hd;refine zK0 ?_;exact⟨i+1,by exact zJ,by omega,by omega⟩
 ·replace hc:=zC hc;refine zK0 ?_;refine⟨.inl rfl,_,_,rfl,trivial,?_⟩;subst hf;rfl
end Go.Proofs.YtjjkdjbbkagclaaGreatDoor
namespace Ox.Gl
variable {P:Nat→Nat→Bool}{n:Nat}
def z2q:∀ (m:Nat) (q:List Nat) {k:Nat},k<(greT P n m q).length→(List.range n).find? (okc P n (q++(greT P n m q).take k))=some ((greT P n m q).getD k 0)
 |0,q,k,h=>by simp[greT] at h
 |m+1,q,k,h=>by
  cases hf:(List.range n).find? (okc P n q) with
  |none=>simp[greT,hf] at h
  |some c=>
   have e:greT P n (m+1) q=c::greT P n m (q++[c]):=by simp[greT,hf]
   rw[e] at h ⊢;cases k with
   |zero=>simpa using hf
   |succ k=>have:=z2q m (q++[c]) (k:=k) (by simpa using h);simpa[yxm] using this
def z6i:∀ {m:Nat} {o:List Nat},o∈lvl P n m→∀ {k:Nat},k≤m→o.take k∈lvl P n k
 |0,o,h,k,hk=>by
  have:k=0:=by omega
  subst this;simp[lvl] at h;subst h;simp[lvl]
 |m+1,o,h,k,hk=>by
  by_cases e:k=m+1
  ·subst e;rw[yxr (by rw[(m9 h).1];exact yym _)];exact h
  ·have h':=h;simp only[lvl,List.mem_flatMap,yy0,yy5,yyr] at h;obtain⟨p,hp,c,⟨hc,ho⟩,rfl⟩:=h;have hl:=(m9 hp).1;rw[yx9 (by omega)];exact z6i hp (by omega)
def z4w(hN:NB P n):(fstO P n).length=n:=(m9 (z0w hN)).1
def fst_get(hN:NB P n)(hk:k<n):(List.range n).find? (okc P n ((fstO P n).take k))=some ((fstO P n).getD k 0):=by have:=z2q (P:=P) (n:=n) n [] (k:=k) (by have:=z4w hN;unfold fstO at this;omega);simpa[fstO] using this
def winO(W:List RgD)(o:List Nat):Nat→List RgD
 |0=>W
 |k+1=>(winO W o k).set (o.getD k 0) ((k:Int),(k:Int),())
def q65(W:List RgD)(o:List Nat):∀ k,(winO W o k).length=W.length
 |0=>rfl
 |k+1=>by rw[winO,List.length_set,q65 W o k]
def q94(W:List RgD)(o:List Nat)(x:Nat):∀ k,(∃ i,i<k∧o.getD i 0=x∧(winO W o k).getD x (0,0,())=((i:Int),(i:Int),()))∨(winO W o k).getD x (0,0,())=W.getD x (0,0,())
 |0=>.inr rfl
 |k+1=>by
  by_cases e:x<W.length
  ·by_cases e2:x=o.getD k 0
   ·left;refine⟨k,by omega,e2.symm,?_⟩;rw[winO,q3l (by rw[q65,← e2];exact e),if_pos e2]
   ·have:(winO W o (k+1)).getD x (0,0,())=(winO W o k).getD x (0,0,()):=by rw[winO,yyg,List.getElem?_set,if_neg fun h=>e2 h.symm,← yyg]
    rw[this];rcases q94 W o x k with⟨i,h1,h2,h3⟩|h
    ·exact .inl ⟨i,by omega,h2,h3⟩
    ·exact .inr h
  ·right;rw[yyg,yxp (by rw[q65];omega),yyg,yxp (by omega)]
variable{W:List RgD}{o:List Nat}
def z8u(hp:∀ a c,P a c=true→a<n)(hN:NB P n)(hf:∀ x,x<n→loR W x≤0∧(n:Int)-1≤hiR W x)(hk:k≤n)(ho:o.take k∈lvl P n k) :
  ∃ p,Sch P n p∧Bnd n p (loR (winO W o k)) (hiR (winO W o k)):=by
 obtain⟨p,h1,h2,h3⟩:=sch_of hp hN ho hk;have hl:=(m9 ho).1;refine⟨p,h1,fun x hx=>?_⟩;unfold loR hiR;rcases q94 W o x k with⟨i,k1,k2,k3⟩|h
 ·rw[k3];have h4:=h3 i (by omega);have h5:(o.take k)[i]'(by omega)=x:=by rw[List.getElem_take,← k2,yyg,yyl (by rw[yxe] at hl;omega)];rfl
  rw[h5] at h4;show(i:Int)≤p x∧p x≤(i:Int);omega
 ·rw[h];have h6:=hf x hx;have h7:=h2 x hx;unfold loR hiR at h6;omega
def winO_bd(h:bdR K W)(o:List Nat):∀ k:Nat,(k:Int)≤K→bdR K (winO W o k):=fun k hk i=>by
 unfold loR hiR;rcases q94 W o i k with⟨j,h1,_,h3⟩|h2
 ·rw[h3];show(-K≤(j:Int)∧(j:Int)≤K)∧-K≤(j:Int)∧(j:Int)≤K;omega
 ·rw[h2];exact h i
def winO_put(W:List RgD)(o:List Nat)(k c:Nat):(winO W o k).set c ((k:Int),(k:Int),())=winO W (o.take k++[c]) (k+1)∨o.length<k:=by
 by_cases hk:o.length<k
 ·exact .inr hk
 left;have e:∀ j,j≤k→winO W (o.take k++[c]) j=winO W o j:=by
  intro j;induction j with
  |zero=>intro _;rfl
  |succ j ih=>
   intro hj;rw[winO,winO,ih (by omega)];have:(o.take k++[c]).getD j 0=o.getD j 0:=by rw[yyg,List.getElem?_append_left (by rw[yxe];omega),yxl,if_pos (by omega),← yyg]
   rw[this]
 rw[winO,e k (yym _)];have:(o.take k++[c]).getD k 0=c:=by rw[yyg,List.getElem?_append_right (by rw[yxe];omega),yxe,yxw (by omega),Nat.sub_self];rfl
 rw[this]
def put_sch(hp:∀ a c,P a c=true→a<n)(hN:NB P n)(hf:∀ x,x<n→loR W x≤0∧(n:Int)-1≤hiR W x)(hk:k<n)(ho:o.take k∈lvl P n k)(hc:c<n)(hok:okc P n (o.take k) c=true) :
  ∃ p,Sch P n p∧Bnd n p (loR ((winO W o k).set c ((k:Int),(k:Int),()))) (hiR ((winO W o k).set c ((k:Int),(k:Int),()))):=by
 have hl:=(m9 ho).1;rw[yxe] at hl;rcases winO_put W o k c with e|e
 ·rw[e];have h2:=q7c ho hc hok;have h3:(o.take k++[c]).take (k+1)=o.take k++[c]:=yxr (by simp;omega);exact z8u hp hN hf (o:=o.take k++[c]) (k:=k+1) (by omega) (by rw[h3];exact h2)
 ·omega
def find_lt{f:Nat→Bool}(h:(List.range n).find? f=some x):x<n∧f x=true∧∀ i,i<x→f i=false:=by
 refine⟨yyr.1 (List.mem_of_find?_eq_some h),List.find?_some h,fun i hi=>?_⟩;obtain⟨h1,az,bs,h2,h3⟩:=List.find?_eq_some_iff_append.1 h;have hlen:az.length=x:=by have h5:=congrArg (fun l=>l[az.length]?) h2;simp only[List.getElem?_append_right (yym _),Nat.sub_self,List.getElem?_cons_zero] at h5;rw[List.getElem?_range (by have:=congrArg List.length h2;simp at this;omega)] at h5;simpa using h5
 have him:i∈az:=by have h6:=congrArg (fun l=>l[i]?) h2;simp only[List.getElem?_append_left (show i<az.length by omega)] at h6;rw[List.getElem?_range (by have:=congrArg List.length h2;simp at this;omega)] at h6;exact List.mem_of_getElem? h6.symm
 simpa using h3 i him
end Ox.Gl
namespace Go.Proofs.YtjjkdjbbkagclaaGreatDoor
open Go Go.RowKit Ox Ox.Gl Ox.Rn
attribute [local irreducible] JC JL JK JW
abbrev ppF(d:Int)(cs:List CoD)(ps:List (List Int))(W:List RgD)(B:List Int):AV:=.val (.ptr (.ptr sfT)) (some (some (mkF d cs ps W B)))
abbrev vPlc(d:Int)(cs:List CoD)(ps:List (List Int))(W:List RgD)(B:List Int):AV:=.fn 138 .anil (.acons (ppF d cs ps W B) .anil)
def fn81(d:Int)(cs:List CoD)(ps:List (List Int))(W:List RgD)(B:List Int):Ox.Fn Tryz.prog 81 (.acons (vF d cs ps W B) .anil) (·=vPlc d cs ps W B):=by
 refine Ox.Fn.intro xok Tryz.func81 rfl Tryz.call81 (yyc rfl) (fun E M0 up=>?_);refine z9 ?_;refine zK0 ?_;refine z5b ?_
 (refine q81 [0] [1] rfl ?_)
 refine zK0 ?_;refine⟨.inl rfl,_,_,rfl,trivial,?_⟩;rfl
section
variable {E:World}{Mx M0:Mem}{nX:Nat}{rdX:Option Nat}{up:Nat→Nat→Value}{dp lab:Nat}{r:List Fr}{QA:Exit→S→Prop}
def plc_it(n:Nat)(K:Nat→List (Nat×HO))(hlen:n≤1000)
  (hY:∀ k,k<n→YO ⟨Tryz.prog,tys,ets,mts,E,Mx,nX,rdX,up,dp⟩ 18 lab (.acons (vI (k:Int)) .anil) (K k) 100 true (K (k+1)) 100)
  (k:∀ L,JK ⟨Tryz.prog,tys,ets,mts,E,M0,18,none,up,dp⟩ r QA ⟨L,K n,100⟩) :
  JK ⟨Tryz.prog,tys,ets,mts,E,M0,18,none,up,dp⟩ (.code (lpC Tryz.f138.body)::.blk 0::r) QA ⟨[(0,.lf (.yld lab)),(9,vI (n:Int)),(10,vI 0)],K 0,100⟩:=by
 refine JK.loop (fun i:Nat=>⟨[(0,.lf (.yld lab)),(9,vI (n:Int)),(10,vI (i:Int))],K i,100⟩) (fun i=>i≤n) (fun i=>n-i) 0 (yyu _) (JW.refl _) fun i hi=>?_;have hfin:i=n→K i=K n:=fun e=>by rw[e]
 refine zK0 ?_;refine z5 rfl (fun hc=>?_) (fun hc=>?_)
 ·replace hc:=zC hc;have y1:=hY i (by omega);refine zK0 ?_;refine q80 (X:=⟨Tryz.prog,tys,ets,mts,E,Mx,nX,rdX,up,dp⟩) [0,9,10] y1 rfl rfl rfl (by simp[stayL,stayB,svL,lk]) trivial ?_;refine zK0 ?_;refine z5 rfl (fun h=>by cases h) (fun _=>?_);refine zK0 ?_;exact⟨i+1,JW.same ⟨rfl,rfl,rfl,trivial⟩,by omega,by omega⟩
 ·replace hc:=zC hc;rw[hfin (by omega)];refine zK0 ?_;exact k _
end
def free2b:∀ (M M':Mem) (ρ:Env) (v:Value),vT2b.rv M' ρ v→vT2b.rv M ρ v:=fun M M' ρ v h=>by simp only[AV.rv,AV.rvs,Rep,List.length_nil,true_or,and_true] at h ⊢;exact h
abbrev LO43:List (Nat×AV):=[(1,.lf (.optr 0 [])),(3,.lf (.optr 1 [])),(6,.lf (.optr 3 [])),(7,.lf (.optr 4 []))]
abbrev KXv(st:LoopState)(c e:Code)(d:Int)(cs:List CoD)(ps:List (List Int))(B:List Int)(W W':List RgD)(ot:List Int)(lv:AV):List (Nat×HO):=
 [(7,.fr 0 [(43,.lf (.yld 6)),(1,.lf (.optr 0 [])),(3,.lf (.optr 1 [])),(6,.lf (.optr 3 [])),(7,.lf (.optr 4 []))]),(6,.loop st none #[20] c e 43 LO43),
  (0,.cell (.ptr sfT) (vF d cs ps W B)),(1,.cell sfT (.val sfT (mkF d cs ps W' B))),(3,.cell (.slice (.int .i64)) (.lf (.osl 5))),(5,.sl 3 (.int .i64) ot),(4,.cell (.int .u64) lv)]
abbrev KX(st:LoopState)(c e:Code)(d:Int)(cs:List CoD)(ps:List (List Int))(B:List Int)(W W':List RgD)(ot:List Int)(lies:Nat):List (Nat×HO):=KXv st c e d cs ps B W W' ot (vS64 lies)
def KM(c e:Code)(d:Int)(cs:List CoD)(ps:List (List Int))(B:List Int)(W:List RgD)(o:List Nat)(k:Nat):List (Nat×HO):=KX .ready c e d cs ps B W (winO W o k) ((o.take k).map Int.ofNat) (bitsQ (o.take k))
abbrev LB43:List (Nat×AV):=[(1,.lf (.optr 0 [])),(3,.lf (.optr 1 [])),(6,.lf (.optr 3 [])),(7,.lf (.optr 4 [])),(8,.lf (.optr 101 []))]
abbrev KB(c e:Code)(d:Int)(cs:List CoD)(ps:List (List Int))(B:List Int)(W W':List RgD)(ot:List Int)(lies k:Nat):List (Nat×HO):=(102,.fr 2 LB43)::(101,.cell (.int .i64) (vI (k:Int)))::(100,.fr 1 [(18,.lf (.yld 6))])::KX .busy c e d cs ps B W W' ot lies
abbrev fn83A:AV:=.fn 83 .anil (.acons (.lf (.optr 4 [])) (.acons (.lf (.optr 0 [])) (.acons (.lf (.optr 101 [])) (.acons (.lf (.optr 1 [])) .anil))))
variable {gs:List Gt}
abbrev LD43(cs:List CoD)(i:Nat):List (Nat×AV):=[(1,fn83A),(5,vI (i:Int)),(7,vI cs.length),(8,vI (i:Int))]
section
variable {E:World}{Ma Mb Mc:Mem}{na nb:Nat}{rda:Option Nat}{upa upb upc:Nat→Nat→Value}{a1 b1:Code}
variable{cs:List CoD}{W W':List RgD}
set_option maxHeartbeats 2000000 in
def good_in(hz:LaidW gs E){ps:List (List Int)}{res:Bool}(hW:W.length=10)(hW':W'.length=10)(hc:c<cs.length)(hn10:cs.length≤10)(hk:k<cs.length)(hl:lies<1024)
  {bc:Nat} (hb10:B.length=10) (hbv:B.getD c 0=(bc:Int)) (hbt:bc<1024) (hWf:loR W c≤0∧(cs.length:Int)-1≤hiR W c)
  (hres:res=(!(lies.testBit c)&&(bc ^^^ (bc &&& lies)==0))) (c80:res=true→FnE gs Tryz.prog 80 (.acons (vF d cs ps (W'.set c ((k:Int),(k:Int),())) B) .anil) (·=vT2b))
  {K:AV→List (Nat×AV)→List (Nat×HO)→Nat→Prop} (hK:K (vB res) (LD43 cs c) (KB a1 b1 d cs ps B W W' ot lies k) 110) :
  JK (Ctx.sub (Ctx.sub ⟨Tryz.prog,tys,ets,mts,E,Ma,na,rda,upa,2⟩ Mb nb none upb) Mc Tryz.f83.ntmps none upc) [.code (Tryz.f83.body.getD .skip)]
   (inlQ (Ctx.sub ⟨Tryz.prog,tys,ets,mts,E,Ma,na,rda,upa,2⟩ Mb nb none upb) Tryz.f83.results.toList K) ⟨[(0,vI (c:Int)),(1,.lf (.optr 4 [])),(2,.lf (.optr 0 [])),(3,.lf (.optr 101 [])),(4,.lf (.optr 1 []))],(103,.fr 3 (LD43 cs c))::KB a1 b1 d cs ps B W W' ot lies k,104⟩:=by
 refine cdf (fn:=Tryz.f83) rfl ?_;obtain⟨b,hb⟩:∃ b,b=true:=⟨true,rfl⟩;have c29:=fn29 (d:=d) (cs:=cs) (ps:=ps) W B (c:=c) (k:Int) (by omega) hW;rw[show decide (loR W c≤(k:Int)∧(k:Int)≤hiR W c)=b from by rw[hb,yys];omega] at c29;have hpc:=q07 (n:=c) (by omega);have hbb:0≤B.getD (Int.toNat (c:Int)) (Ty.int .u64).dflt∧B.getD (Int.toNat (c:Int)) (Ty.int .u64).dflt<1024:=by show 0≤B.getD c 0∧B.getD c 0<1024;omega
 have hbe:B.getD (Int.toNat (c:Int)) (Ty.int .u64).dflt=(bc:Int):=hbv;have hV:(bif (bif (((((lies:Nat):Int).toNat &&& ((1:Int)*2 ^ (Int.toNat (c:Int))).toNat:Nat):Int) != 0) then true else((((B.getD (Int.toNat (c:Int)) (Ty.int .u64).dflt).toNat ^^^ ((B.getD (Int.toNat (c:Int)) (Ty.int .u64).dflt).toNat &&& ((lies:Nat):Int).toNat):Nat):Int) != 0)) then true else !b)=!res:=by
  rw[hbe,hres,hb,Int.toNat_natCast,Int.toNat_natCast,Int.toNat_natCast,q3q];by_cases z:lies.testBit c=true
  ·have z1:(((lies &&& 2 ^ c:Nat):Int) != 0)=true:=by have:=q6m.2 z;simp;exact_mod_cast this
   rw[z1,z];simp
  ·have z0:lies &&& 2 ^ c=0:=by refine yx3 fun h=>z (q6m.1 h)
   rw[z0];simp at z;rw[z];by_cases y:bc ^^^ (bc &&& lies)=0
   ·simp[y]
   ·have:(((bc ^^^ (bc &&& lies):Nat):Int) != 0)=true:=by simp;exact_mod_cast y
    rw[this];simp[y]
 refine zK0 ?_;refine p4 xk (Tryz.f83.body.getD .skip) ⟨[(0,vI (c:Int)),(3,.lf (.optr 101 [])),(4,.lf (.optr 1 [])),(32,vB (bif (bif (((((lies:Nat):Int).toNat &&& ((1:Int)*2 ^ (Int.toNat (c:Int))).toNat:Nat):Int) != 0) then true else((((B.getD (Int.toNat (c:Int)) (Ty.int .u64).dflt).toNat ^^^ ((B.getD (Int.toNat (c:Int)) (Ty.int .u64).dflt).toNat &&& ((lies:Nat):Int).toNat):Nat):Int) != 0)) then true else !b))],(103,.fr 3 (LD43 cs c))::KB a1 b1 d cs ps B W W' ot lies k,104⟩ rfl 23 rfl ?_ ?_
 ·(refine q7 1 xk rfl rfl (q7 2 xk rfl rfl (z7 0 xk rfl rfl (z7 3 xk rfl rfl (z7 4 xk rfl rfl (z7 5 xk rfl rfl ?_)))));refine j9 6 [7,12] xk ?_ ?_;exact zS;refine(BrF.one rfl rfl ?_ (BrF.one rfl rfl ?_ (BrF.one rfl rfl ?_ BrF.nil)));(· (refine w6 xk rfl rfl rfl ?_);refine q8 ?_;refine q9 7 xk rfl rfl rfl (q9 8 xk rfl rfl rfl (q9 9 xk rfl rfl rfl (q9 10 xk rfl rfl rfl ?_)));refine j9 11 [12] xk ?_ ?_;exact zS;refine(BrF.one rfl rfl ?_ (BrF.one rfl rfl ?_ BrF.nil));(· (refine w6 xk rfl rfl rfl ?_);refine q8 ?_;refine zU 12 xk rfl rfl ?_;(refine w6 xk rfl rfl rfl ?_);refine q8 ?_;refine q9 13 xk rfl rfl rfl (q9 14 xk rfl rfl rfl (q7 15 xk rfl rfl (q7 16 xk rfl rfl (q9 18 xk rfl rfl rfl ?_))));refine j9 17 [19] xk ?_ ?_;exact zS;refine(BrF.one rfl rfl ?_ (BrF.one rfl rfl ?_ BrF.nil));(· (refine w6 xk rfl rfl rfl ?_);refine q8 ?_;refine zU 19 xk rfl rfl ?_;(refine w6 xk rfl rfl rfl ?_);refine q8 ?_;refine zU 20 xk rfl rfl ?_;(refine q0s rfl rfl (fun hgd=>c29) rfl trivial rfl ?_);refine q8 ?_;refine q9 21 xk rfl rfl rfl (q7 22 xk rfl rfl ?_);refine w7 xk ?_ ?_;exact zS;(exact zJ));(· (refine w6 xk rfl rfl rfl ?_);refine q8 ?_;refine zU 17 xk rfl rfl ?_;(refine w6 xk rfl rfl rfl ?_);refine q8 ?_;refine zU 20 xk rfl rfl ?_;exact zB0));(· (refine w6 xk rfl rfl rfl ?_);refine q8 ?_;refine zU 11 xk rfl rfl ?_;(refine w6 xk rfl rfl rfl ?_);refine q8 ?_;refine q9 13 xk rfl rfl rfl (q9 14 xk rfl rfl rfl (q7 15 xk rfl rfl (q7 16 xk rfl rfl (q9 18 xk rfl rfl rfl ?_))));refine j9 17 [19] xk ?_ ?_;exact zS;refine(BrF.one rfl rfl ?_ (BrF.one rfl rfl ?_ BrF.nil));(· (refine w6 xk rfl rfl rfl ?_);refine q8 ?_;refine zU 19 xk rfl rfl ?_;(refine w6 xk rfl rfl rfl ?_);refine q8 ?_;refine zU 20 xk rfl rfl ?_;(refine q0s rfl rfl (fun hgd=>c29) rfl trivial rfl ?_);refine q8 ?_;refine q9 21 xk rfl rfl rfl (q7 22 xk rfl rfl ?_);refine w7 xk ?_ ?_;exact zS;(exact zJ));exact zB10));(· (refine w6 xk rfl rfl rfl ?_);refine q8 ?_;refine j9 6 [12] xk ?_ ?_;exact zS;refine(BrF.one rfl rfl ?_ (BrF.one rfl rfl ?_ BrF.nil));(· (refine w6 xk rfl rfl rfl ?_);refine q8 ?_;refine q9 8 xk rfl rfl rfl (q9 9 xk rfl rfl rfl (q9 10 xk rfl rfl rfl ?_));refine j9 11 [12] xk ?_ ?_;exact zS;refine(BrF.one rfl rfl ?_ (BrF.one rfl rfl ?_ BrF.nil));(· (refine w6 xk rfl rfl rfl ?_);refine q8 ?_;refine zU 12 xk rfl rfl ?_;(refine w6 xk rfl rfl rfl ?_);refine q8 ?_;refine q9 13 xk rfl rfl rfl (q9 14 xk rfl rfl rfl (q7 15 xk rfl rfl (q7 16 xk rfl rfl (q9 18 xk rfl rfl rfl ?_))));refine j9 17 [19] xk ?_ ?_;exact zS;refine(BrF.one rfl rfl ?_ (BrF.one rfl rfl ?_ BrF.nil));(· (refine w6 xk rfl rfl rfl ?_);refine q8 ?_;refine zU 19 xk rfl rfl ?_;(refine w6 xk rfl rfl rfl ?_);refine q8 ?_;refine zU 20 xk rfl rfl ?_;(refine q0s rfl rfl (fun hgd=>c29) rfl trivial rfl ?_);refine q8 ?_;refine q9 21 xk rfl rfl rfl (q7 22 xk rfl rfl ?_);refine w7 xk ?_ ?_;exact zS;(exact zJ));exact zB10);(· (refine w6 xk rfl rfl rfl ?_);refine q8 ?_;refine zU 11 xk rfl rfl ?_;(refine w6 xk rfl rfl rfl ?_);refine q8 ?_;refine q9 13 xk rfl rfl rfl (q9 14 xk rfl rfl rfl (q7 15 xk rfl rfl (q7 16 xk rfl rfl (q9 18 xk rfl rfl rfl ?_))));refine j9 17 [19] xk ?_ ?_;exact zS;refine(BrF.one rfl rfl ?_ (BrF.one rfl rfl ?_ BrF.nil));(· (refine w6 xk rfl rfl rfl ?_);refine q8 ?_;refine zU 19 xk rfl rfl ?_;(refine w6 xk rfl rfl rfl ?_);refine q8 ?_;refine zU 20 xk rfl rfl ?_;(refine q0s rfl rfl (fun hgd=>c29) rfl trivial rfl ?_);refine q8 ?_;refine q9 21 xk rfl rfl rfl (q7 22 xk rfl rfl ?_);refine w7 xk ?_ ?_;exact zS;(exact zJ));exact zB10));(· (refine w6 xk rfl rfl rfl ?_);refine q8 ?_;refine zU 6 xk rfl rfl ?_;(refine w6 xk rfl rfl rfl ?_);refine q8 ?_;refine q9 8 xk rfl rfl rfl (q9 9 xk rfl rfl rfl (q9 10 xk rfl rfl rfl (zU 11 xk rfl rfl ?_)));(refine w6 xk rfl rfl rfl ?_);refine q8 ?_;refine q9 13 xk rfl rfl rfl (q9 14 xk rfl rfl rfl (q7 15 xk rfl rfl (q7 16 xk rfl rfl (q9 18 xk rfl rfl rfl ?_))));refine j9 17 [19] xk ?_ ?_;exact zS;refine(BrF.one rfl rfl ?_ (BrF.one rfl rfl ?_ BrF.nil));(· (refine w6 xk rfl rfl rfl ?_);refine q8 ?_;refine zU 19 xk rfl rfl ?_;(refine w6 xk rfl rfl rfl ?_);refine q8 ?_;refine zU 20 xk rfl rfl ?_;exact zB0);(· (refine w6 xk rfl rfl rfl ?_);refine q8 ?_;refine zU 17 xk rfl rfl ?_;(refine w6 xk rfl rfl rfl ?_);refine q8 ?_;refine zU 20 xk rfl rfl ?_;(refine q0s rfl rfl (fun hgd=>c29) rfl trivial rfl ?_);refine q8 ?_;refine q9 21 xk rfl rfl rfl (q7 22 xk rfl rfl ?_);refine w7 xk ?_ ?_;exact zS;(exact zJ))));(· (refine w6 xk rfl rfl rfl ?_);refine q8 ?_;refine q9 7 xk rfl rfl rfl (zU 6 xk rfl rfl ?_);(refine w6 xk rfl rfl rfl ?_);refine q8 ?_;refine q9 8 xk rfl rfl rfl (q9 9 xk rfl rfl rfl (q9 10 xk rfl rfl rfl (zU 11 xk rfl rfl ?_)));(refine w6 xk rfl rfl rfl ?_);refine q8 ?_;refine q9 13 xk rfl rfl rfl (q9 14 xk rfl rfl rfl (q7 15 xk rfl rfl (q7 16 xk rfl rfl (q9 18 xk rfl rfl rfl ?_))));refine j9 17 [19] xk ?_ ?_;exact zS;refine(BrF.one rfl rfl ?_ (BrF.one rfl rfl ?_ BrF.nil));(· (refine w6 xk rfl rfl rfl ?_);refine q8 ?_;refine zU 19 xk rfl rfl ?_;(refine w6 xk rfl rfl rfl ?_);refine q8 ?_;refine zU 20 xk rfl rfl ?_;(refine q0s rfl rfl (fun hgd=>c29) rfl trivial rfl ?_);refine q8 ?_;refine q9 21 xk rfl rfl rfl (q7 22 xk rfl rfl ?_);refine w7 xk ?_ ?_;exact zS;(exact zJ));(· (refine w6 xk rfl rfl rfl ?_);refine q8 ?_;refine zU 17 xk rfl rfl ?_;(refine w6 xk rfl rfl rfl ?_);refine q8 ?_;refine zU 20 xk rfl rfl ?_;exact zB0)))
 rw[hV];clear hV;refine z5 rfl (fun hd=>?_) (fun hd=>?_)
 ·have:res=false:=by simpa using hd
  subst this
  (repeat (first|refine zs rfl ?_))
  refine e8 (s':=⟨[(6,vB false)],(103,.fr 3 (LD43 cs c))::KB a1 b1 d cs ps B W W' ot lies k,110⟩) (by exact zJ) ?_;refine w8 ?_;exact q28 rfl rfl rfl rfl hK
 ·have e:res=true:=by simpa using hd
  replace c80:=c80 e;subst e;refine zK0 ?_;refine j30 (gs:=gs) hz rfl rfl rfl c80 free2b rfl trivial ?_
  (repeat (first|refine zs rfl ?_))
  refine e8 (s':=⟨[(6,vB true)],(103,.fr 3 (LD43 cs c))::KB a1 b1 d cs ps B W W' ot lies k,110⟩) (by exact zJ) ?_;refine w8 ?_;exact q28 rfl rfl rfl rfl hK
set_option maxHeartbeats 2000000 in
def least_in(hz:LaidW gs E){ps:List (List Int)}{ok:Nat→Bool}(hW:W.length=10)(hW':W'.length=10)(hn10:cs.length≤10)(hk:k<cs.length)(hl:lies<1024)
  {bf:Nat→Nat} (hb10:B.length=10) (hbv:∀ c,B.getD c 0=(bf c:Int)) (hbt:∀ c,bf c<1024) (hWf:∀ c,c<cs.length→loR W c≤0∧(cs.length:Int)-1≤hiR W c)
  (hok:∀ c,c<cs.length→ok c=(!(lies.testBit c)&&(bf c ^^^ (bf c &&& lies)==0))) (c80:∀ c,c<cs.length→ok c=true→FnE gs Tryz.prog 80 (.acons (vF d cs ps (W'.set c ((k:Int),(k:Int),())) B) .anil) (·=vT2b))
  (hx:x<cs.length∧ok x=true∧∀ i,i<x→ok i=false)
  {K:AV→List (Nat×AV)→List (Nat×HO)→Nat→Prop} (hK:K (vI (x:Int)) LB43 ((101,.cell (.int .i64) (vI (k:Int)))::(100,.fr 1 [(18,.lf (.yld 6))])::KX .busy a1 b1 d cs ps B W W' ot lies) 110) :
  JK (Ctx.sub ⟨Tryz.prog,tys,ets,mts,E,Ma,na,rda,upa,2⟩ Mb Tryz.f82.ntmps none upb) [.code (Tryz.f82.body.getD .skip)]
   (inlQ ⟨Tryz.prog,tys,ets,mts,E,Ma,na,rda,upa,2⟩ Tryz.f82.results.toList K) ⟨[(0,.val (.slice coT) cs),(1,fn83A)],KB a1 b1 d cs ps B W W' ot lies k,103⟩:=by
 refine cdf (fn:=Tryz.f82) rfl ?_;refine zK0 ?_;refine JK.loop (fun i:Nat=>⟨[(1,fn83A),(7,vI cs.length),(8,vI (i:Int))],KB a1 b1 d cs ps B W W' ot lies k,103⟩) (fun i=>i≤x) (fun i=>cs.length-i) 0 (yyu _) (by exact zJ) fun i hi=>?_;refine zK0 ?_;refine z5 rfl (fun hc=>?_) (fun hc=>?_)
 ·replace hc:=zC hc;have hi':i<cs.length:=by omega
  refine zK0 ?_;refine q32 [1,5,7,8] rfl rfl trivial Tryz.func83 rfl Tryz.call83 (yyc rfl) rfl fun M6 up6=>?_;refine cdt (fn:=Tryz.f83) rfl ?_;refine good_in hz (res:=ok i) hW hW' hi' hn10 hk hl hb10 (hbv i) (hbt i) (hWf i hi') (hok i hi') (c80 i hi') ?_;have hxi:=hx.2.2 i;cases e:ok i with
  |true=>
   have:i=x:=Nat.le_antisymm hi (Nat.not_lt.1 fun h=>by rw[hxi h] at e;cases e);subst this;refine zK0 ?_;refine z5 rfl (fun _=>?_) (fun h=>by cases h)
   (repeat (first|refine zs rfl ?_))
   refine e8 (s':=⟨[(4,vI (i:Int))],KB a1 b1 d cs ps B W W' ot lies k,110⟩) (by exact zJ) ?_;refine w8 ?_;exact q28 rfl rfl rfl rfl hK
  |false=>
   have:i≠x:=fun h=>by rw[h,hx.2.1] at e;cases e
   refine zK0 ?_;refine z5 rfl (fun h=>by cases h) (fun _=>?_);refine zK0 ?_;exact⟨i+1,by exact zJ,by omega,by omega⟩
 ·replace hc:=zC hc;omega
end
set_option maxHeartbeats 2000000 in
def fn43(hg:g64∈gs){cs:List CoD}{ps:List (List Int)}(h:VG d cs ps){W:List RgD}(hW:W.length=10)(hWb:bdR 102000 W)(hWf:∀ x,x<cs.length→loR W x≤0∧(cs.length:Int)-1≤hiR W x) :
  FnE gs Tryz.prog 43 (.acons (vF d cs ps W (befL ps)) .anil) (·=vL ((fstO (pG ps) cs.length).map Int.ofNat)):=by
 refine Ox.FnX.intro xok Tryz.func43 rfl Tryz.call43 (yyc rfl) (fun E M0 up hz=>?_);refine z9 ?_;have hn10:=h.n10;have hpl:∀ a c,pG ps a c=true→a<cs.length:=fun a c hp=>(h.lt hp).1;obtain⟨p0,hp0,hb0⟩:=z8u hpl h.nb hWf (o:=[]) (k:=0) (yyu _) (by simp[lvl]);have c80a:=fun(W':List RgD) h1 h2 (h3:∃ p,Sch (pG ps) cs.length p∧Bnd cs.length p (loR W') (hiR W'))=>fn80 hg h (W:=W') h1 h2 h3.choose_spec.1 h3.choose_spec.2;have c80:=c80a W hW hWb ⟨p0,hp0,hb0⟩;have c81:=fn81 d cs ps W (befL ps);have hbv:=h.bef;have hbt:=h.bf_1024;have hb10:=h.bef_len;generalize befL ps=B at c80a c80 c81 hbv hb10 ⊢;refine zK0 ?_;refine j30 (gs:=gs) hz rfl rfl rfl c80 free2b rfl trivial ?_;refine zK0 ?_;refine z5 rfl (fun h=>absurd h (by decide)) (fun _=>?_)
 (repeat (first|refine zs rfl ?_|refine zg rfl rfl rfl ?_|refine v6 ?_|refine w8 ?_|refine zc rfl (c81) rfl rfl ?_|refine ze rfl (c81) rfl ?_|refine zk rfl rfl (fun _=>c81) rfl rfl ?_))
 refine q5u 3 3 (.int .i64) rfl ?_;refine q31 [1,3,6,7] rfl rfl rfl Tryz.func138 rfl Tryz.call138 (yyc rfl) trivial fun M3 up3 a1 b1 ha1 hb1=>?_;refine zK0 ?_;have hol:=z4w h.nb;have hog:=fun k (hk:k<cs.length)=>fst_get h.nb hk;have hov:=z0w h.nb;generalize fstO (pG ps) cs.length=o at hol hog hov ⊢;refine e8 (s':=⟨[(0,.lf (.yld 6)),(9,vI (cs.length:Int)),(10,vI 0)],KM a1 b1 d cs ps B W o 0,100⟩) (by exact zJ) ?_;refine plc_it (Mx:=M3) (nX:=18) (rdX:=none) cs.length (KM a1 b1 d cs ps B W o) (by omega) (fun k hk=>?_) (fun L=>?_)
 ·refine YO.intro 0 43 (ps:=#[20]) (assign:=a1) (body:=b1) (nO:=43) (LO:=LO43) (L0:=[(20,vI (k:Int)),(1,.lf (.optr 0 [])),(3,.lf (.optr 1 [])),(6,.lf (.optr 3 [])),(7,.lf (.optr 4 []))]) rfl rfl rfl ⟨7,_,rfl,rfl⟩ ⟨7,_,rfl,rfl⟩ fun M4 M5 up5 bl hup=>z9 (n6 ha1 ?_);refine zK0 ?_;refine g9 (q5m rfl rfl rfl rfl (z9 (n6 hb1 ?_)));refine zK0 ?_;have hlv:=z6i hov (k:=k) (by omega);have hlv2:=(m9 hlv).2.2;have hlt:bitsQ (o.take k)<2 ^ cs.length:=q7k hlv2;have hp2:=z4a hn10;have hx:=find_lt (hog k hk);have hsn:o.take (k+1)=o.take k++[o.getD k 0]:=by rw[yy2 (by omega),k8 o (by omega)]
  have hwn:winO W o (k+1)=(winO W o k).set (o.getD k 0) ((k:Int),(k:Int),()):=rfl;have hbn:bitsQ (o.take (k+1))=bitsQ (o.take k) ||| 2 ^ (o.getD k 0):=by rw[hsn,q2l]
  have hmn:(o.take (k+1)).map Int.ofNat=(o.take k).map Int.ofNat++[((o.getD k 0:Nat):Int)]:=by rw[hsn,yx2];rfl
  have hwl:=(q65 W o k).trans hW;have hwb:=winO_bd hWb o k (by omega);have hres:∀ c,c<cs.length→okc (pG ps) cs.length (o.take k) c=(!((bitsQ (o.take k)).testBit c)&&(bfN ps c ^^^ (bfN ps c &&& bitsQ (o.take k))==0)):=fun c hc=>by rw[← z51,j0a (bf:=bfN ps) (fun c a _=>q4u ps c a) hpl hc]
  have h80:∀ c,c<cs.length→okc (pG ps) cs.length (o.take k) c=true→FnE gs Tryz.prog 80 (.acons (vF d cs ps ((winO W o k).set c ((k:Int),(k:Int),())) B) .anil) (·=vT2b):=fun c hc hok=>by
   refine c80a _ (by rw[List.length_set,hwl]) (fun i=>?_) (put_sch hpl h.nb hWf hk hlv hc hok);unfold loR hiR;rw[q3l (by omega)];split
   ·dsimp only;omega
   ·exact hwb i
  have hWO:(winO W o k).getD 0 (0,0,())=(winO W o k).getD 0 (0,0,()):=rfl;show JK _ _ _ ⟨_,(101,.cell (.int .i64) (vI (k:Int)))::(100,.fr 1 [(18,.lf (.yld 6))])::KX .busy a1 b1 d cs ps B W (winO W o k) ((o.take k).map Int.ofNat) (bitsQ (o.take k)),102⟩;rw[show KM a1 b1 d cs ps B W o (k+1)=KX .ready a1 b1 d cs ps B W (winO W o (k+1)) ((o.take (k+1)).map Int.ofNat) (bitsQ (o.take (k+1))) from rfl,hwn,hbn,hmn];have hol2:((o.take k).map Int.ofNat).length≤10:=by simp;omega
  generalize winO W o k=W' at hwl h80 hwn ⊢;generalize (o.take k).map Int.ofNat=ot at hol2 ⊢;generalize bitsQ (o.take k)=lies at hlt hres ⊢;generalize hxg:o.getD k 0=x at hx ⊢;refine q32 [1,3,6,7,8] rfl rfl trivial Tryz.func82 rfl Tryz.call82 (yyc rfl) rfl fun M6 up6=>?_;refine cdt (fn:=Tryz.f82) rfl ?_;refine least_in (ok:=okc (pG ps) cs.length (o.take k)) (x:=x) hz hW hwl hn10 hk (by omega) hb10 hbv hbt (fun c hc=>hWf c hc) hres h80 hx ?_;have hxl:=hx.1;have hpx:=q07 (n:=x) (by omega);clear hres h80 hx hbn hmn hsn hlv hlv2 c80a c80 c81 hog hwn hWO hwb hp0 hb0;refine zK0 ?_;refine p4 xk (Tryz.f43.body.getD .skip) ⟨[(1,.lf (.optr 0 [])),(3,.lf (.optr 1 [])),(6,.lf (.optr 3 [])),(7,.lf (.optr 4 [])),(9,vI (x:Int))],(100,.fr 1 [(18,.lf (.yld 6))])::KXv .busy a1 b1 d cs ps B W (W'.set x ((k:Int),(k:Int),())) ot (.val (.int .u64) (((((lies:Nat):Int).toNat ||| ((1:Int)*2 ^ (Int.toNat (x:Int))).toNat:Nat)):Int)),110⟩ rfl 5 rfl ?_ ?_
  ·(refine q7 1 xk rfl rfl (q7 2 xk rfl rfl (z7 0 xk rfl rfl (z7 3 xk rfl rfl (zU 4 xk rfl rfl ?_))));exact zB7)
  refine zK0 ?_;refine g9 (bodyQ.of rfl rfl rfl rfl rfl rfl ⟨rfl,?_⟩);show JW _ ⟨[],KXv .ready a1 b1 d cs ps B W (W'.set x ((k:Int),(k:Int),())) (ot++[(x:Int)]) (vS64 (lies ||| 2 ^ x)),100⟩ _;rw[vS_or];exact zJ
 ·refine g9 (rngQ.of (.inr rfl) rfl rfl rfl rfl rfl rfl rfl (q8p ?_));have hfin:(o.take cs.length).map Int.ofNat=o.map Int.ofNat:=by rw[yxr (by omega)]
  rw[show KM a1 b1 d cs ps B W o cs.length=KX .ready a1 b1 d cs ps B W (winO W o cs.length) ((o.take cs.length).map Int.ofNat) (bitsQ (o.take cs.length)) from rfl,hfin];have hol2:(o.map Int.ofNat).length≤10:=by simp;omega
  generalize winO W o cs.length=W';generalize bitsQ (o.take cs.length)=lies;generalize o.map Int.ofNat=ot at hol2 ⊢
  (repeat (first|refine zs rfl ?_))
  (refine z1j [5] [2] rfl ?_)
  refine zK0 ?_;refine⟨.inl rfl,_,_,rfl,trivial,?_⟩;rfl
end Go.Proofs.YtjjkdjbbkagclaaGreatDoor
namespace Ox
open Go Go.RowKit
variable {X:Ctx}{M:Mem}{ρ:Env}{a:Act}{w w':World}{QA:Exit→S→Prop}{all l:List Oper}{L:List (Nat×AV)}{H:List (Nat×HO)}{nx d:Nat}{ty:TypeId}{ps:String}{af:Array Edge}{md:Bool}{rr:List Fr}
def z5a{x:Operand}{e:Ty}{xs:List e.den}(hX:XOK X)(hT:lk X.T t=some (.slice e))(hu:opd L x=some (c1,.val (.slice e) xs))(hc:allP c1)(hn:0<xs.length)(hd:ltB d X.n=true)(kk:JK X (.ops md all l::rr) QA ⟨(d,.val .bool false)::L,H,nx⟩) :
  JK X (.ops md all (⟨some d,.binOp .eql t x (.const (.slice none 0 0)) t',ty,ps,af,none⟩::l)::rr) QA ⟨L,H,nx⟩:=by
 refine JL.vq (o:=⟨some d,.binOp .eql t x (.const (.slice none 0 0)) t',ty,ps,af,none⟩) (s:=⟨L,H,nx⟩) (v:=.val .bool false) rfl rfl (w9 hd) trivial (fun M ρ a w h1 h2=>?_) kk;have e1:=(z8 (s:=⟨L,H,nx⟩) hu hc h2).2;rw[q34] at e1;obtain⟨ad,cap,e2,_,_,_,e3⟩:=e1;obtain⟨b,off,c,cty,fz,rfl,_⟩:=e3.resolve_left (by omega);have ht:=hX.t _ _ hT;simp only[TyOf] at ht;obtain⟨eid,hs,_⟩:=ht;refine⟨.bool false,by rw[m5],fun w1=>?_⟩;have e4:a.eval (.const (.slice none 0 0))=.slice none 0 0:=rfl;have hg:(eqGuard .eql t x (.const (.slice none 0 0)) (.slice (some ⟨b,off,none⟩) xs.length cap) (.slice none 0 0)).run X.P w1=.ok () w1:=by simp[eqGuard]
 have he:(Op.equal t (.slice (some ⟨b,off,none⟩) xs.length cap) (.slice none 0 0)).run X.P w1=.ok false w1:=by unfold Op.equal Op.maxDepth Op.equalIn;simp[run_underlying hs.under]
 simp only[execOp,e2,e4,yye,hg,yyb,binOp,he,yyf]
end Ox
namespace Go.Proofs.YtjjkdjbbkagclaaGreatDoor
open Go Go.RowKit Ox Ox.Gl Ox.Rn
attribute [local irreducible] JC JL JK JW
abbrev vT2l(l:List Int)(e:Int):AV:=.tup (.acons (vL l) (.acons (vI e) .anil))
variable {gs:List Gt}
def fn17(hg:g64∈gs){cs:List CoD}{ps:List (List Int)}(h:VG d cs ps)(hWf:∀ x,x<cs.length→loR (winL d cs) x≤0∧(cs.length:Int)-1≤hiR (winL d cs) x) :
  FnE gs Tryz.prog 17 (.acons (vG d cs ps) .anil) (·=vT2l ((fstO (pG ps) cs.length).map Int.ofNat) 0):=by
 refine Ox.FnX.intro xok Tryz.func17 rfl Tryz.call17 (yyc rfl) (fun E M0 up hz=>?_);refine z9 ?_;have c26:=fn26 h [] (fun x hx=>absurd hx yxg);have c43:=fn43 hg h (q2s _ _) h.win_bd hWf;have hol:=z4w h.nb;have hn1:=h.n1;have hn10:=h.n10;have hml:((fstO (pG ps) cs.length).map Int.ofNat).length=cs.length:=by rw[yxd,hol]
 generalize (fstO (pG ps) cs.length).map Int.ofNat=o at c43 hml ⊢;refine zK30 ?_;refine z5 rfl (fun h=>absurd h (by decide)) (fun _=>?_);refine zK0 ?_;refine j31 (gs:=gs) hz rfl c43 rfl trivial ?_;refine zK0 ?_;refine z5a xk rfl rfl trivial (by omega) rfl ?_;refine zK0 ?_;refine z5 rfl (fun h=>by cases h) (fun _=>?_);have hrep:o.length=(List.replicate (Int.toNat (o.length:Int)) (Ty.int .i64).dflt).length:=by simp
 refine zK0 ?_;refine⟨.inl rfl,_,_,rfl,trivial,?_⟩;rfl
end Go.Proofs.YtjjkdjbbkagclaaGreatDoor
namespace Ox
open Go Go.RowKit
variable {X:Ctx}{M:Mem}{ρ:Env}{a:Act}{w w':World}{QA:Exit→S→Prop}{all l:List Oper}
def j3w{r:List Fr}{L:List (Nat×AV)}{H:List (Nat×HO)}{nx d:Nat}{ty:TypeId}{pos:String}{af:Array Edge}(Kp:List Nat){lab:Nat}{ps:Array Tmp}{assign body:Code}{nO:Nat}{LO L0:List (Nat×AV)}{az:AV}{tys:Array TypeId}
  (hu:opd L fo=some (cs1,.lf (.yld lab))) (ha:opds L args.toList=some (cs2,az)) (hc:allP (cs1++cs2)) (hl:lk H lab=some (.loop .ready none ps assign body nO LO))
  (hps:setPs ps.toList az LO=some L0) (hpn:ps.toList.all (fun p=>Nat.blt p nO)=true) (hd:ltB d X.n=true)
  (h:∀ M0 up bl,up X.dp X.n=.func (.yield bl) #[] #[]→JK (X.sub M0 nO (some bl) up) [.code assign]
   (asgQ X nO fun s1=>JC (X.sub M0 nO (some bl) up) body (bodyQ X fun b L H nx=>JK X (.ops true all l::r) QA ⟨(d,.val .bool b)::L,H,nx⟩) s1)
   ⟨L0,(nx,.fr X.dp ((X.n,.lf (.yld lab))::svL L Kp))::H,nx+1⟩) :
  JK X (.ops true all (⟨some d,.call {callee:=.value fo,args:=args,argTypes:=tys},ty,pos,af,none⟩::l)::r) QA ⟨L,H,nx⟩:=
 JL.yield (s:=⟨L,H,nx⟩) Kp rfl rfl hu ha hc hl hps hpn (w9 hd) h
end Ox
namespace Go.Proofs.YtjjkdjbbkagclaaGreatDoor
open Go Go.RowKit Ox Ox.Gl Ox.Rn
attribute [local irreducible] JC JL JK JW
def q3m:mapB Tryz.prog 145=true:=by decide +kernel
def q87:funB Tryz.prog 79=true:=by decide +kernel
set_option maxRecDepth 20000 in
def mpU:MapT Tryz.prog u64T (.int .i64) 145 81 2:=.of (by rfl) (by decide +kernel)
abbrev EnU:=Ent u64T (.int .i64)
abbrev p44(F:AV):AV:=.pfn (.fn 29 (.acons F .anil) .anil)
abbrev LO44(F:AV):List (Nat×AV):=[(1,.lf (.optr 0 [])),(3,.pfn (.lf (.mp 1))),(4,p44 F)]
abbrev HC(st:LoopState)(c e:Code)(F:AV)(es:List EnU)(clk:Nat):List (Nat×HO):=[(3,.fr 0 [(83,.lf (.yld 2)),(1,.lf (.optr 0 [])),(3,.pfn (.lf (.mp 1))),(4,p44 F)]),(2,.loop st none #[17] c e 83 (LO44 F)),(0,.cell (.ptr sfT) F),(1,.map u64T (.int .i64) es clk)]
abbrev HD(c e:Code)(F:AV)(n k:Nat)(es:List EnU)(clk:Nat):List (Nat×HO):=(4,.fr 1 [(18,.lf (.yld 2)),(0,.lf (.yld 2)),(9,vI (n:Int)),(10,vI (k:Int))])::HC .busy c e F es clk
abbrev RB(F:AV)(k:Nat):List (Nat×AV):=[(1,.lf (.optr 0 [])),(3,.pfn (.lf (.mp 1))),(4,p44 F),(5,vI (k:Int))]
section
variable {E:World}{Ma Mb:Mem}{na:Nat}{rda:Option Nat}{upa upb:Nat→Nat→Value}{bl:Nat}{a1 b1:Code}{QA:Exit→S→Prop}
set_option maxRecDepth 20000 in
set_option maxHeartbeats 4000000 in
def cnt_body{cs:List CoD}{ps:List (List Int)}(h:VG d cs ps){W:List RgD}(hW:W.length=10)(hWf:∀ x,x<cs.length→loR W x≤0∧(cs.length:Int)-1≤hiR W x)
  (hbv:∀ c,B.getD c 0=(bfN ps c:Int)) (hb10:B.length=10) {k:Nat} (hk:k<cs.length) {es:List EnU} {clk:Nat} (hcm:CM (kt:=u64T) (fun p=>p∈KL (pG ps) cs.length k) es clk fun p=>(KL (pG ps) cs.length k).count p)
  (hK:∀ es' clk',CM (kt:=u64T) (fun p=>p∈KL (pG ps) cs.length (k+1)) es' clk' (fun p=>(KL (pG ps) cs.length (k+1)).count p)→QA .normal ⟨RB (vF d cs ps W B) k,HD a1 b1 (vF d cs ps W B) cs.length k es' clk',10⟩) :
  JK (Ctx.sub ⟨Tryz.prog,tys,ets,mts,E,Ma,na,rda,upa,1⟩ Mb 83 (some bl) upb) [.code (rgsB 0 Tryz.f44.body)] QA ⟨RB (vF d cs ps W B) k,HD a1 b1 (vF d cs ps W B) cs.length k es clk,5⟩:=by
 refine n6 (c':=_) rfl ?_;have hn10:=h.n10;have hbt:=h.bf_1024;have hpl:∀ a c,pG ps a c=true→a<cs.length:=fun a c hp=>(h.lt hp).1;have hokx:∀ x c,c<cs.length→okx (pG ps) cs.length x c=(!(x.testBit c)&&(bfN ps c ^^^ (bfN ps c &&& x)==0)):=fun x c hc=>j0a (bf:=bfN ps) (fun c a _=>q4u ps c a) hpl hc;have hllen:(KL (pG ps) cs.length k).length≤1000000000:=by rw[KL_len];exact Nat.le_trans (q75 k) (ten_pow hn10 (by omega))
 generalize bfN ps=bf at hbv hbt hokx;refine zK2 ?_;refine JK.ghost 6 81 u64T rfl ?_;refine JK.loop (σ:=List EnU×Nat) (fun q=>⟨RB (vF d cs ps W B) k++[(6,.lf (.osl 6)),(19,.lf (.itr 5))],(6,.sl 81 u64T (q.1.map fun e=>e.1))::(5,.iter 1 clk (q.1.map (·.2.2)) q.2)::HD a1 b1 (vF d cs ps W B) cs.length k es clk,7⟩)
  (fun q=>Far es q.1∧clk≤q.2) (fun q=>mLeft es (q.1.map (·.2.2))) ([],clk) ⟨Far.nil es,yym _⟩ (by exact zJ) fun⟨done,last⟩ ⟨hfar,hlast⟩=>?_
 dsimp only at hfar hlast ⊢;have hdk:∀ x∈done.map (fun e=>e.1),x∈KL (pG ps) cs.length k:=fun x hx=>by obtain⟨e,he,rfl⟩:=yy0.1 hx;exact hcm.ok e (hfar.sub e he)
 have hdn:=hfar.keys hcm.wf;have hdl:(done.map fun e=>e.1).length≤1024:=keys_len hn10 hdn hdk;refine zK2 ?_;refine j3y rfl rfl rfl hcm.wf.lt hlast rfl (fun hall=>?_) (fun e he hes=>?_)
 ·have hp:=hfar.all hcm.wf hall;have hcov:∀ y∈KL (pG ps) cs.length k,y∈done.map fun e=>e.1:=fun y hy=>by obtain⟨e,he,e1⟩:=hcm.key (p:=y) (by have:=List.count_pos_iff.2 hy;omega);exact yy0.2 ⟨e,hp.mem_iff.2 he,e1⟩
  clear hall hp hfar hlast;generalize (done.map fun e=>e.1)=old at hdk hdn hdl hcov ⊢;generalize hKL:KL (pG ps) cs.length k=LK at hcm hdk hcov hllen;refine zK2 ?_;refine z5 rfl (fun h=>by cases h) (fun _=>?_);refine zK2 ?_;refine JK.loop (σ:=Nat×List EnU×Nat) (fun q=>⟨RB (vF d cs ps W B) k++[(28,.lf (.osl 6)),(29,vI old.length),(30,vI (q.1:Int))],(6,.sl 81 u64T old)::HD a1 b1 (vF d cs ps W B) cs.length k q.2.1 q.2.2,7⟩)
   (fun q=>q.1≤old.length∧CM (kt:=u64T) (fun p=>(p∈LK∧p∉old.take q.1)∨p∈KL (pG ps) cs.length (k+1)) q.2.1 q.2.2 (mixC LK (fun p=>fK (pG ps) cs.length p cs.length) (old.take q.1))) (fun q=>old.length-q.1) (0,es,clk)
   ⟨yyu _,(hcm.imp fun p hp=>.inl ⟨hp,by simp⟩).congr fun p=>by rw[List.take_zero,mix_nil]⟩ (by exact zJ) fun⟨j,es1,clk1⟩ ⟨hj,hcm1⟩=>?_
  dsimp only at hj hcm1 ⊢;refine zK2 ?_;refine z5 rfl (fun hc=>?_) (fun hc=>?_)
  ·replace hc:=zC hc;have hj':j<old.length:=by omega
   have hxk:=hdk (old.getD j 0) (by rw[k8 old hj'];exact yyy hj');have htk:old.take (j+1)=old.take j++[old.getD j 0]:=by rw[yy2 hj',k8 old hj']
   have hxd:old.getD j 0∉old.take j:=fun hm=>by rw[k8 old hj',List.mem_take_iff_getElem] at hm;obtain⟨i,hi,e⟩:=hm;exact(ywa.1 (List.nodup_iff_pairwise_ne.1 hdn) i j (by omega) hj' (by omega)) e
   have hz:old.getD (Int.toNat (j:Int)) (Ty.int .u64).dflt=old.getD j 0:=rfl;rw[← hKL] at hxk;obtain⟨x,hx,hxl⟩:=KL_bd hxk;rw[hx] at hz htk hxd hxk;refine zK2 ?_;rw[hz];have hval:mixC LK (fun p=>fK (pG ps) cs.length p cs.length) (old.take j) (x:Int)=LK.count (x:Int):=mix_val hxd fun y hy=>z7g hxk (by rw[hKL];exact hy);have hstep:=fun p=>mix_step (L:=LK) (f:=fun p=>fK (pG ps) cs.length p cs.length) (done:=old.take j) (x:=(x:Int)) hxd (fun y hy=>z7g hxk (by rw[hKL];exact hy)) p;have hmixle:=fun p=>mix_le LK (fun p=>fK (pG ps) cs.length p cs.length) 10 (fun a=>Nat.le_trans (fK_len a _) hn10) (old.take j) p;have hcl:=List.count_le_length (a:=(x:Int)) (l:=LK);rw[← htk] at hstep;generalize mixC LK (fun p=>fK (pG ps) cs.length p cs.length) (old.take j)=mc at hcm1 hval hstep hmixle;refine JK.loop (σ:=Nat×List EnU×Nat) (fun q=>⟨RB (vF d cs ps W B) k++[(9,vS64 x),(28,.lf (.osl 6)),(29,vI old.length),(30,vI (j:Int)),(39,vI cs.length),(40,vI (q.1:Int))],(6,.sl 81 u64T old)::HD a1 b1 (vF d cs ps W B) cs.length k q.2.1 q.2.2,7⟩)
    (fun q=>q.1≤cs.length∧CM (kt:=u64T) (fun p=>(p∈LK∧p∉old.take j)∨p∈KL (pG ps) cs.length (k+1)) q.2.1 q.2.2 (fun p=>mc p+LK.count (x:Int)*(fK (pG ps) cs.length (x:Int) q.1).count p)) (fun q=>cs.length-q.1) (0,es1,clk1)
    ⟨yyu _,hcm1.congr fun p=>by simp[fK,stp]⟩ (by exact zJ) fun⟨c,es2,clk2⟩ ⟨hcc,hcm2⟩=>?_
   dsimp only at hcc hcm2 ⊢;refine zK2 ?_;refine z5 rfl (fun hd=>?_) (fun hd=>?_)
   ·replace hd:=zC hd;have hc':c<cs.length:=by omega
    obtain⟨b,hb⟩:∃ b,b=true:=⟨true,rfl⟩;have c29:=fn29 (d:=d) (cs:=cs) (ps:=ps) W B (c:=c) (k:Int) (by omega) hW;rw[show decide (loR W c≤(k:Int)∧(k:Int)≤hiR W c)=b from by have:=hWf c hc';rw[hb,yys];omega] at c29
    have hpc:=q07 (n:=c) (by omega);have hbe:B.getD (Int.toNat (c:Int)) (Ty.int .u64).dflt=(bf c:Int):=hbv c;have hbc:=hbt c;have hbb:0≤B.getD (Int.toNat (c:Int)) (Ty.int .u64).dflt∧B.getD (Int.toNat (c:Int)) (Ty.int .u64).dflt<1024:=by rw[hbe];omega
    have hx10:x<1024:=yxa hxl (z4a hn10);have hV:(bif (bif (((((x:Nat):Int).toNat &&& ((1:Int)*2 ^ (Int.toNat (c:Int))).toNat:Nat):Int)==0) then((((B.getD (Int.toNat (c:Int)) (Ty.int .u64).dflt).toNat ^^^ ((B.getD (Int.toNat (c:Int)) (Ty.int .u64).dflt).toNat &&& ((x:Nat):Int).toNat):Nat):Int)==0) else false) then b else false)=okx (pG ps) cs.length x c:=by
     rw[hokx x c hc',hbe,hb,Int.toNat_natCast,Int.toNat_natCast,Int.toNat_natCast,q3q];by_cases z:x.testBit c=true
     ·have z1:(((x &&& 2 ^ c:Nat):Int)==0)=false:=by have:=q6m.2 z;simp;exact_mod_cast this
      rw[z1,z];simp
     ·have z0:x &&& 2 ^ c=0:=by refine yx3 fun h=>z (q6m.1 h)
      rw[z0];simp at z;rw[z];by_cases y:bf c ^^^ (bf c &&& x)=0
      ·simp[y]
      ·have:(((bf c ^^^ (bf c &&& x):Nat):Int)==0)=false:=by simp;exact_mod_cast y
       rw[this];simp[y]
    have hfs:=fK_succ (P:=pG ps) (n:=cs.length) x c
    (repeat (first|refine zs rfl ?_|refine zg rfl rfl rfl ?_|refine v6 ?_|refine w8 ?_|refine zmi mpU rfl rfl rfl rfl ?_|refine zmd mpU rfl rfl rfl ?_|refine zmr mpU rfl rfl rfl ?_|refine zmm mpU rfl ?_|refine zlf q87 rfl rfl rfl ?_|refine zdg q87 rfl rfl rfl ?_|refine zlm q3m rfl rfl rfl ?_|refine zdm q3m rfl rfl ?_|refine zc rfl (c29) rfl rfl ?_|refine ze rfl (c29) rfl ?_|refine zk rfl rfl (fun _=>c29) rfl rfl ?_))
    refine z5 rfl (fun he=>?_) (fun he=>?_)
    ·have hk2:=hV.symm.trans he;rw[if_pos hk2] at hfs;have hqt:((((x:Nat):Int).toNat ||| ((1:Int)*2 ^ (Int.toNat (c:Int))).toNat:Nat):Int)=((x ||| 2 ^ c:Nat):Int):=by rw[Int.toNat_natCast,Int.toNat_natCast,q3q]
     have hq:((x ||| 2 ^ c:Nat):Int)∈KL (pG ps) cs.length (k+1):=KL_next hxk (m:=c+1) (by omega) (by rw[hfs];simp);have hgx:(mGet es2 ((x:Nat):Int) (Ty.dflt (.int .i64)):Int)=(LK.count (x:Int):Nat):=by have:=hcm2.eq ((x:Nat):Int);refine this.trans ?_;rw[hval,List.count_eq_zero.2 fK_self,Nat.mul_zero,Nat.add_zero]
     have hgq:(mGet es2 ((((x:Nat):Int).toNat ||| ((1:Int)*2 ^ (Int.toNat (c:Int))).toNat:Nat):Int) (Ty.dflt (.int .i64)):Int)=((mc ((x ||| 2 ^ c:Nat):Int)+LK.count (x:Int)*(fK (pG ps) cs.length (x:Int) c).count ((x ||| 2 ^ c:Nat):Int):Nat):Int):=by rw[hqt];exact hcm2.eq _
     have hb1:=hmixle ((x ||| 2 ^ c:Nat):Int);have hb2:LK.count (x:Int)*(fK (pG ps) cs.length (x:Int) c).count ((x ||| 2 ^ c:Nat):Int)≤1000000000*10:=Nat.mul_le_mul (by omega) (by have:=List.count_le_length (a:=((x ||| 2 ^ c:Nat):Int)) (l:=fK (pG ps) cs.length (x:Int) c);have:=fK_len (P:=pG ps) (n:=cs.length) (x:Int) c;omega)
     have hadd:=hcm2.add ((x ||| 2 ^ c:Nat):Int) (LK.count (x:Int)) (.inr hq) (v:=(mGet es2 ((((x:Nat):Int).toNat ||| ((1:Int)*2 ^ (Int.toNat (c:Int))).toNat:Nat):Int) (Ty.dflt (.int .i64)):Int)+(mGet es2 ((x:Nat):Int) (Ty.dflt (.int .i64)):Int)) (by rw[hgx,hgq]);have hsum:(0:Int)≤(mGet es2 ((((x:Nat):Int).toNat ||| ((1:Int)*2 ^ (Int.toNat (c:Int))).toNat:Nat):Int) (Ty.dflt (.int .i64)):Int)+(mGet es2 ((x:Nat):Int) (Ty.dflt (.int .i64)):Int)∧(mGet es2 ((((x:Nat):Int).toNat ||| ((1:Int)*2 ^ (Int.toNat (c:Int))).toNat:Nat):Int) (Ty.dflt (.int .i64)):Int)+(mGet es2 ((x:Nat):Int) (Ty.dflt (.int .i64)):Int)≤1000000000000:=by
      have hS:mc ((x ||| 2 ^ c:Nat):Int)+LK.count (x:Int)*(fK (pG ps) cs.length (x:Int) c).count ((x ||| 2 ^ c:Nat):Int)+LK.count (x:Int)≤100000000000:=by omega
      rw[hgx,hgq];generalize mc ((x ||| 2 ^ c:Nat):Int)+LK.count (x:Int)*(fK (pG ps) cs.length (x:Int) c).count ((x ||| 2 ^ c:Nat):Int)=X at hS ⊢;generalize LK.count (x:Int)=Y at hS ⊢;dsimp only[Ty.den] at hS ⊢;omega
     rw[← hqt] at hadd;clear hV he hk2 c29 hgx hgq hb1 hb2;refine zK2 ?_;refine q0z xk (Tryz.f44.body.getD .skip) ⟨RB (vF d cs ps W B) k++[(9,vS64 x),(28,.lf (.osl 6)),(29,vI old.length),(30,vI (j:Int)),(39,vI cs.length),(40,vI (c:Int))],(6,.sl 81 u64T old)::HD a1 b1 (vF d cs ps W B) cs.length k (mPut es2 clk2 (((((x:Nat):Int).toNat ||| ((1:Int)*2 ^ (Int.toNat (c:Int))).toNat:Nat):Int)) ((mGet es2 (((((x:Nat):Int).toNat ||| ((1:Int)*2 ^ (Int.toNat (c:Int))).toNat:Nat):Int)) (Ty.dflt (.int .i64)):Int)+(mGet es2 ((x:Nat):Int) (Ty.dflt (.int .i64)):Int))) (mClk es2 clk2 (((((x:Nat):Int).toNat ||| ((1:Int)*2 ^ (Int.toNat (c:Int))).toNat:Nat):Int))),7⟩ rfl 11 rfl ?_ ?_
     ·(refine q7 1 xk rfl rfl (q7 2 xk rfl rfl (q7 3 xk rfl rfl (q7 4 xk rfl rfl (q7 7 xk rfl rfl ?_))));refine j9 0 [6] xk StF.nil (BrF.one rfl rfl ?_ (BrF.one rfl rfl ?_ BrF.nil));(· refine zK3 ?_;refine q8 ?_;refine j9 5 [6] xk StF.nil (BrF.one rfl rfl ?_ (BrF.one rfl rfl ?_ BrF.nil));(· refine zK3 ?_;refine q8 ?_;refine zU 6 xk rfl rfl ?_;refine zK3 ?_;refine q8 ?_;refine zU 8 xk rfl rfl ?_;refine zK3 ?_;refine q8 ?_;refine q7 9 xk rfl rfl (zU 10 xk rfl rfl ?_);exact zB8);(· refine zK3 ?_;refine q8 ?_;refine j9 5 [8] xk StF.nil (BrF.one rfl rfl ?_ (BrF.one rfl rfl ?_ BrF.nil));(· refine zK3 ?_;refine q8 ?_;refine zU 8 xk rfl rfl ?_;refine zK3 ?_;refine q8 ?_;refine q7 9 xk rfl rfl (zU 10 xk rfl rfl ?_);exact zB8);(· refine zK3 ?_;refine q8 ?_;refine zU 5 xk rfl rfl ?_;refine zK3 ?_;refine q8 ?_;refine q7 9 xk rfl rfl (zU 10 xk rfl rfl ?_);exact zB8)));(· refine zK3 ?_;refine q8 ?_;refine j9 0 [8] xk StF.nil (BrF.one rfl rfl ?_ (BrF.one rfl rfl ?_ BrF.nil));(· refine zK3 ?_;refine q8 ?_;refine j9 5 [8] xk StF.nil (BrF.one rfl rfl ?_ (BrF.one rfl rfl ?_ BrF.nil));(· refine zK3 ?_;refine q8 ?_;refine zU 8 xk rfl rfl ?_;refine zK3 ?_;refine q8 ?_;refine q7 9 xk rfl rfl (zU 10 xk rfl rfl ?_);exact zB8);(· refine zK3 ?_;refine q8 ?_;refine zU 5 xk rfl rfl ?_;refine zK3 ?_;refine q8 ?_;refine q7 9 xk rfl rfl (zU 10 xk rfl rfl ?_);refine zK3 ?_;refine q8 ?_;refine w7 xk StF.nil ?_;(exact zJ)));(· refine zK3 ?_;refine q8 ?_;refine zU 0 xk rfl rfl ?_;refine zK3 ?_;refine q8 ?_;refine zU 5 xk rfl rfl ?_;refine zK3 ?_;refine q8 ?_;refine q7 9 xk rfl rfl (zU 10 xk rfl rfl ?_);refine zK3 ?_;refine q8 ?_;refine w7 xk StF.nil ?_;(exact zJ))))
     generalize mPut es2 clk2 (((((x:Nat):Int).toNat ||| ((1:Int)*2 ^ (Int.toNat (c:Int))).toNat:Nat):Int)) ((mGet es2 (((((x:Nat):Int).toNat ||| ((1:Int)*2 ^ (Int.toNat (c:Int))).toNat:Nat):Int)) (Ty.dflt (.int .i64)):Int)+(mGet es2 ((x:Nat):Int) (Ty.dflt (.int .i64)):Int))=es3 at hadd ⊢;generalize mClk es2 clk2 (((((x:Nat):Int).toNat ||| ((1:Int)*2 ^ (Int.toNat (c:Int))).toNat:Nat):Int))=clk3 at hadd ⊢;refine zK2 ?_;refine⟨(c+1,es3,clk3),by exact zJ,⟨by dsimp only;omega,hadd.congr fun p=>?_⟩,by dsimp only;omega⟩;dsimp only;rw[hfs,List.count_append,Nat.mul_add,← Nat.add_assoc,hqt];exact cnt1 _ _ _ _
    ·have hk2:=hV.symm.trans he;rw[if_neg (by rw[hk2];simp)] at hfs;refine zK2 ?_;refine⟨(c+1,es2,clk2),by exact zJ,⟨by dsimp only;omega,hcm2.congr fun p=>?_⟩,by dsimp only;omega⟩;dsimp only;rw[hfs]
   ·replace hd:=zC hd;have hce:c=cs.length:=by omega
    subst hce;refine zK2 ?_;refine⟨(j+1,mDel es2 ((x:Nat):Int),clk2),by exact zJ,⟨by dsimp only;omega,?_⟩,by dsimp only;omega⟩;dsimp only;refine((hcm2.delQ (x:Int)).imp fun p hp=>?_).congr fun p=>?_
    ·obtain⟨hp1,hp2⟩:=hp;rcases hp1 with⟨h1,h2⟩|h1
     ·refine .inl ⟨h1,fun hm=>?_⟩;rw[htk] at hm;rcases yy4.1 hm with hm|hm
      ·exact h2 hm
      ·exact hp2 (yyw.1 hm)
     ·exact .inr h1
    ·exact(hstep p).symm
  ·replace hc:=zC hc;have hto:old.take j=old:=yxr (by omega);rw[hto] at hcm1;refine e8 (s':=⟨RB (vF d cs ps W B) k,HD a1 b1 (vF d cs ps W B) cs.length k es1 clk1,10⟩) (by exact zJ) ?_;refine zK2 ?_;refine g9 (hK es1 clk1 ?_);refine(hcm1.imp fun p hp=>?_).congr fun p=>?_
   ·rcases hp with⟨h1,h2⟩|h1
    ·exact absurd (hcov p h1) h2
    ·exact h1
   ·rw[mix_all hcov,KL_succ,hKL]
 ·have hfar':=hfar.snoc hcm.wf he hes;have hlt:=z0o he hes;obtain⟨x,many,born,rfl⟩:∃ (x:Int) (many:Int) (born:Nat),e=(x,many,born):=⟨e.1,e.2.1,e.2.2,rfl⟩;refine zK2 ?_;refine z5 rfl (fun _=>?_) (fun h=>absurd h (by decide));refine zK2 ?_;refine j3z rfl rfl rfl rfl rfl he hcm.wf rfl ?_;refine zK2 ?_;refine⟨(done++[(x,many,born)],clk),?_,⟨hfar',yym _⟩,by simpa using hlt⟩
  (refine q6q (by conv=>lhs;reduce) ?_ ?_ ?_ ?_ rfl<;>(repeat' (first|exact trivial|exact rfl|refine And.intro ?_ ?_|exact yyc rfl|refine q5y ?_|refine q5x ?_|(refine congrArg (fun z:Int=>some (AV.val (.int .i64) z)) ?_;push_cast;omega)|(simp))))
end
variable{cs:List CoD}
set_option maxRecDepth 20000 in
set_option maxHeartbeats 4000000 in
def fn44{ps:List (List Int)}(h:VG d cs ps){W:List RgD}(hW:W.length=10)(hWf:∀ x,x<cs.length→loR W x≤0∧(cs.length:Int)-1≤hiR W x) :
  Ox.Fn Tryz.prog 44 (.acons (vF d cs ps W (befL ps)) .anil) (·=vI ((lvl (pG ps) cs.length cs.length).length:Nat)):=by
 refine Ox.Fn.intro xok Tryz.func44 rfl Tryz.call44 (yyc rfl) (fun E M0 up=>?_);refine z9 ?_;have hn10:=h.n10;have c81:=fn81 d cs ps W (befL ps);have c84:=fn84 d cs ps W (befL ps) hn10;have hbv:=h.bef;have hb10:=h.bef_len;generalize befL ps=B at c81 c84 hbv hb10 ⊢
 (repeat (first|refine zs rfl ?_|refine zg rfl rfl rfl ?_|refine v6 ?_|refine w8 ?_|refine zmi mpU rfl rfl rfl rfl ?_|refine zmd mpU rfl rfl rfl ?_|refine zmr mpU rfl rfl rfl ?_|refine zmm mpU rfl ?_|refine zlf q87 rfl rfl rfl ?_|refine zdg q87 rfl rfl rfl ?_|refine zlm q3m rfl rfl rfl ?_|refine zdm q3m rfl rfl ?_|refine zc rfl (c81) rfl rfl ?_|refine ze rfl (c81) rfl ?_|refine zk rfl rfl (fun _=>c81) rfl rfl ?_))
 refine q31 [1,3,4] rfl rfl rfl Tryz.func138 rfl Tryz.call138 (yyc rfl) trivial fun M3 up3 a1 b1 ha1 hb1=>?_;refine zK2 ?_;refine JK.loop (σ:=Nat×List EnU×Nat) (fun q=>⟨[(0,.lf (.yld 2)),(9,vI cs.length),(10,vI (q.1:Int))],HC .ready a1 b1 (vF d cs ps W B) q.2.1 q.2.2,4⟩)
  (fun q=>q.1≤cs.length∧CM (kt:=u64T) (fun p=>p∈KL (pG ps) cs.length q.1) q.2.1 q.2.2 fun p=>(KL (pG ps) cs.length q.1).count p) (fun q=>cs.length-q.1) (0,mPut [] 0 (0:Int) (1:Int),1)
  ⟨yyu _,cm_zero (pG ps) cs.length⟩ (by exact zJ) fun⟨k,es,clk⟩ ⟨hk,hcm⟩=>?_
 dsimp only at hk hcm ⊢;refine zK2 ?_;refine z5 rfl (fun hc=>?_) (fun hc=>?_)
 ·replace hc:=zC hc;have hk':k<cs.length:=by omega
  refine zK2 ?_;refine j3w [0,9,10] (L0:=[(17,vI (k:Int)),(1,.lf (.optr 0 [])),(3,.pfn (.lf (.mp 1))),(4,p44 (vF d cs ps W B))]) rfl rfl trivial rfl rfl rfl rfl fun M4 up4 bl hup=>n6 ha1 ?_;refine zK2 ?_;refine g9 (q5m rfl rfl rfl rfl (z9 (n6 hb1 ?_)));refine e8 (s':=⟨RB (vF d cs ps W B) k,HD a1 b1 (vF d cs ps W B) cs.length k es clk,5⟩) (by exact zJ) ?_;show JK _ [.code (rgsB 0 Tryz.f44.body)] _ _;refine cnt_body h hW hWf hbv hb10 hk' hcm fun es' clk' hcm'=>?_;refine bodyQ.of rfl rfl rfl rfl rfl rfl ?_;refine zK2 ?_;refine z5 rfl (fun h=>by cases h) (fun _=>?_);refine zK2 ?_;exact⟨(k+1,es',clk'),by exact zJ,⟨by dsimp only;omega,hcm'⟩,by dsimp only;omega⟩
 ·replace hc:=zC hc;have hkn:k=cs.length:=by omega
  subst hkn;refine zK2 ?_;refine g9 (rngQ.of (.inr rfl) rfl rfl rfl rfl rfl rfl rfl (q8p ?_));have hget:(mGet es ((2 ^ cs.length-1:Nat):Int) (Ty.dflt (.int .i64)):Int)=(((lvl (pG ps) cs.length cs.length).length:Nat):Int):=by rw[← KL_all];exact hcm.eq _
  have hcb:(mGet es ((2 ^ cs.length-1:Nat):Int) (Ty.dflt (.int .i64)):Int)=(((lvl (pG ps) cs.length cs.length).length:Nat):Int):=hget;generalize ((lvl (pG ps) cs.length cs.length).length:Nat)=R at hget ⊢;refine zK2 ?_;refine p4 xk (Tryz.f44.body.getD .skip) ⟨[(2,vI (mGet es ((2 ^ cs.length-1:Nat):Int) (Ty.dflt (.int .i64)):Int))],[],4⟩ rfl 5 rfl ?_ ?_
  ·(refine z7 1 xk rfl rfl ?_;refine j9 0 [2] xk ?_ ?_;exact zS;refine(BrF.one rfl rfl ?_ (BrF.one rfl rfl ?_ BrF.nil));(· refine zK14 ?_;refine q8 ?_;refine zU 2 xk rfl rfl ?_;refine zK14 ?_;refine q8 ?_;refine zU 3 xk rfl rfl ?_;refine zK14 ?_;refine q8 ?_;refine q7 4 xk rfl rfl ?_;refine w7 xk StF.nil ?_;(exact zJ));(· refine zK14 ?_;refine q8 ?_;refine zU 0 xk rfl rfl ?_;refine zK14 ?_;refine q8 ?_;refine zU 3 xk rfl rfl ?_;refine zK14 ?_;refine q8 ?_;refine q7 4 xk rfl rfl ?_;refine w7 xk StF.nil ?_;(exact zJ)))
  refine zK2 ?_;refine⟨.inl rfl,_,_,rfl,trivial,?_⟩;exact congrArg vI hget
abbrev vT2i(n e:Int):AV:=.tup (.acons (vI n) (.acons (vI e) .anil))
def fn18{ps:List (List Int)}(h:VG d cs ps)(hWf:∀ x,x<cs.length→loR (winL d cs) x≤0∧(cs.length:Int)-1≤hiR (winL d cs) x) :
  Ox.Fn Tryz.prog 18 (.acons (vG d cs ps) .anil) (·=vT2i ((lvl (pG ps) cs.length cs.length).length:Nat) 0):=by
 refine Ox.Fn.intro xok Tryz.func18 rfl Tryz.call18 (yyc rfl) (fun E M0 up=>?_);refine z9 ?_;have c26:=fn26 h [] (fun x hx=>absurd hx yxg);have c44:=fn44 h (q2s _ _) hWf
 (repeat (first|refine zs rfl ?_|refine zg rfl rfl rfl ?_|refine v6 ?_|refine w8 ?_|refine zmi mpU rfl rfl rfl rfl ?_|refine zmd mpU rfl rfl rfl ?_|refine zmr mpU rfl rfl rfl ?_|refine zmm mpU rfl ?_|refine zlf q87 rfl rfl rfl ?_|refine zdg q87 rfl rfl rfl ?_|refine zlm q3m rfl rfl rfl ?_|refine zdm q3m rfl rfl ?_|refine zc rfl (c26) rfl rfl ?_|refine ze rfl (c26) rfl ?_|refine zk rfl rfl (fun _=>c26) rfl rfl ?_))
 refine z5 rfl (fun h=>absurd h (by decide)) (fun _=>?_)
 (repeat (first|refine zs rfl ?_|refine zg rfl rfl rfl ?_|refine v6 ?_|refine w8 ?_|refine zmi mpU rfl rfl rfl rfl ?_|refine zmd mpU rfl rfl rfl ?_|refine zmr mpU rfl rfl rfl ?_|refine zmm mpU rfl ?_|refine zlf q87 rfl rfl rfl ?_|refine zdg q87 rfl rfl rfl ?_|refine zlm q3m rfl rfl rfl ?_|refine zdm q3m rfl rfl ?_|refine zc rfl (c44) rfl rfl ?_|refine ze rfl (c44) rfl ?_|refine zk rfl rfl (fun _=>c44) rfl rfl ?_))
 refine⟨.inl rfl,_,_,rfl,trivial,?_⟩;rfl
end Go.Proofs.YtjjkdjbbkagclaaGreatDoor
namespace Ox
open Go Go.RowKit Ox.Rn
def z5e{Z:Mem→Prop}{P:Program}{r:AV}(hr:r.scal=true)(h:FnL Z P f .anil (·=r)):FnZ Z P f r.toV where
 call:=h.call
 run:=fun M w hz hM=>by
  let ρ:Env:=⟨fun _=>0,fun _=>.bool,fun _=>Go.undef⟩
  refine(h.run M ρ w [] hz hM (by simp only[AV.rvs]) trivial).mono ?_;rintro e w' ⟨v,r',M',rfl,rfl,_,hv,hbl,_⟩;exact⟨by rw[(x4 hr).1 hv],hbl⟩
end Ox
