/- Texts of the proof of the statement that the last text proves. -/
import Derived.Test.YtjjkdjbbkagclaaGreatDoorPjg
set_option linter.all false
set_option maxHeartbeats 2000000
variable{t:List Int}{q:List Nat}{c:Nat}
namespace Go.Proofs.YtjjkdjbbkagclaaGreatDoor
open Go Go.RowKit Ox Ox.Gl Ox.St Ox.Rn
attribute [local irreducible] JC JL JK JW
variable {gs:List Gt}
def okK(ps:List (List Int))(q:List Nat)(c k:Nat):Bool:=!decide (c∈q)&&(ps.take k).all fun p=>decide (q1 p≠c)||decide (q0 p∈q)
def okK_zero(ps:List (List Int))(q:List Nat)(c:Nat):okK ps q c 0=!decide (c∈q):=by simp[okK]
def okK_succ{ps:List (List Int)}{c k:Nat}(h:k<ps.length){i j:Nat}(e:ps.getD k prT.dflt=[(i:Int),(j:Int)]):okK ps q c (k+1)=(bif okK ps q c k then(bif decide (j≠c) then true else decide (i∈q)) else false):=by
 have e2:ps[k]=[(i:Int),(j:Int)]:=by rw[← e,yyg,yyl h];rfl
 unfold okK;rw[yy2 h,List.all_append,e2];have h1:q1 [(i:Int),(j:Int)]=j:=by show Int.toNat (j:Int)=j;omega
 have h0:q0 [(i:Int),(j:Int)]=i:=by show Int.toNat (i:Int)=i;omega
 simp only[List.all_cons,List.all_nil,Bool.and_true,h1,h0];rw[← Bool.and_assoc];generalize (!decide (c∈q)&&(ps.take k).all fun p=>decide (q1 p≠c)||decide (q0 p∈q))=b;cases b<;>cases decide (j≠c)<;>simp
def okK_all{n:Nat}{ps:List (List Int)}(hp:∀ a c,pG ps a c=true→a<c∧c<n):okK ps q c ps.length=okc (pG ps) n q c:=by
 unfold okK;rw[yxq,yyz,f9,yyd,yyx,decide_eq_false_iff_not,yy1];refine and_congr_right fun _=>⟨fun h a _ hp=>?_,fun h p hp'=>?_⟩
 ·obtain⟨p,h1,e1,e2⟩:=q6v.1 hp;have:=h p h1;rw[e1,e2] at this;simpa using this
 ·by_cases e:q1 p=c
  ·have h1:pG ps (q0 p) c=true:=q6v.2 ⟨p,hp',rfl,e⟩;have:=h (q0 p) (by have:=hp _ _ h1;omega) h1;rw[decide_eq_true this,Bool.or_true]
  ·rw[decide_eq_true e];rfl
def che_zero{d:Int}{C:List CoD}{ps:List (List Int)}(h:VG d C ps)(hWf:∀ x,x<C.length→loR (winL d C) x≤0∧(C.length:Int)-1≤hiR (winL d C) x){o:List Nat}(ho:isO C.length (o.map Int.ofNat))(hl:o.Pairwise fun x y=>pG ps y x=false):cheG d C ps (o.map Int.ofNat)=0:=by
 have h1:(o.map Int.ofNat).map Int.toNat=o:=by rw[List.map_map];exact(List.map_congr_left fun x _=>Int.toNat_natCast x).trans (List.map_id o)
 unfold cheG;rw[if_pos,if_pos]
 ·unfold rulB;rw[h1];exact decide_eq_true hl
 ·unfold sufB;rw[yy1];intro k hk;rw[yyr] at hk;have hb:=ho.get hk;have hlen:=ho.len;have hx:((o.map Int.ofNat).getD k 0).toNat<C.length:=by omega
  refine(h.suit hx (k:=k) (by omega) (by omega)).1 ?_;have:=hWf _ hx;omega
def okT(t:List Int):Prop:=∀ x,0≤t.getD x 0∧t.getD x 0≤(x:Int)+1
def z4g(h:okT t){v:Int}(h0:0≤v)(h1:v≤(c:Int)+1):okT (t.set c v):=fun x=>by
 have hx:=h x;rw[yyg,List.getElem?_set];by_cases e:c=x
 ·subst e;rw[if_pos rfl];split
  ·exact⟨h0,h1⟩
  ·exact⟨Int.le_refl _,by show(0:Int)≤_;omega⟩
 ·rw[if_neg e,← yyg];exact hx
def okT_lngP(h:okT t){p:List Int}(hp:q0 p<q1 p):okT (lngP q0 q1 c t p):=by
 unfold lngP;split
 ·rename_i e;have h1:=h c;have h2:=h (q0 p);exact z4g h (by omega) (by omega)
 ·exact h
def z0h{c:Nat}:∀ (B:List (List Int)) {t:List Int},(∀ p∈B,q0 p<q1 p)→okT t→okT (B.foldl (lngP q0 q1 c) t)
 |[],_,_,h=>h
 |p::B,t,hB,h=>z0h B (fun q hq=>hB q (yyi _ hq)) (okT_lngP h (hB p yyj))
def z4h{B:List (List Int)}{n:Nat}(hB:∀ p∈B,q0 p<q1 p):∀ m,okT (lngS q0 q1 B n m)
 |0=>fun x=>by
  have:(lngS q0 q1 B n 0).getD x 0=0:=by unfold lngS;rw[yyg,List.getElem?_replicate];split<;>rfl
  omega
 |m+1=>z0h B hB (z4g (z4h hB m) (by omega) (by omega))
def q4o{c:Nat}:∀ (B:List (List Int)) (t:List Int),(B.foldl (lngP q0 q1 c) t).length=t.length
 |[],_=>rfl
 |p::B,t=>by rw[List.foldl_cons,q4o B,z0q]
def z2f{c x:Nat}(h:x≠c):∀ (B:List (List Int)) (t:List Int),(B.foldl (lngP q0 q1 c) t).getD x 0=t.getD x 0
 |[],_=>rfl
 |p::B,t=>by
  rw[List.foldl_cons,z2f h B];unfold lngP;split
  ·rw[yyg,List.getElem?_set,if_neg (fun e=>h e.symm),← yyg]
  ·rfl
def z6j{B:List (List Int)}{n:Nat}{x:Nat}:∀ {m:Nat},x<m→(lngS q0 q1 B n m).getD x 0=(lngS q0 q1 B n (x+1)).getD x 0
 |m+1,h=>by
  by_cases e:x=m
  ·subst e;rfl
  ·rw[← z6j (m:=m) (by omega),lngS,z2f e,yyg,List.getElem?_set,if_neg (fun k=>e k.symm),← yyg]
def mostR(B:List (List Int))(n:Nat):Nat→Int
 |0=>0
 |c+1=>max (mostR B n c) ((lngS q0 q1 B n (c+1)).getD c 0)
def z59{B:List (List Int)}{n:Nat}:∀ c,c≤n→mostR B n c=mostS (lngS q0 q1 B n n) c
 |0,_=>rfl
 |c+1,h=>by unfold mostR mostS;rw[z59 c (by omega),z6j (m:=n) (by omega)]
def z6a{B:List (List Int)}{n:Nat}(hB:∀ p∈B,q0 p<q1 p):∀ c,0≤mostR B n c∧mostR B n c≤c
 |0=>⟨Int.le_refl _,Int.le_refl _⟩
 |c+1=>by have h1:=z6a (B:=B) (n:=n) hB c;have h2:=z4h (n:=n) hB (c+1) c;unfold mostR;omega
abbrev oI(o:List Nat):List Int:=o.map Int.ofNat
def pkI(w:List Int)(m L:Nat):Nat:=if 0<w.length then(w.getD (m % w.length) 0).toNat % L else 0
abbrev LW(n:Nat)(ps:List (List Int))(w:List Int)(q:List Nat):List (Nat×AV):=[(2,vU w),(6,vB false),(7,vI (n:Int)),(8,.lf (.optr 0 [])),(9,.lf (.optr 1 [])),(10,.lf (.osl 2)),(11,.lf (.osl 3)),(12,.lf .nils),(13,vI (bitsQ q:Nat))]
abbrev HW(n:Nat)(C:List CoD)(ps:List (List Int))(q:List Nat):List (Nat×HO):=[(0,.cell glT (vG 1 C ps)),(1,.cell beT (vBe n ps)),(2,.sl 3 (.int .i64) (oI q)),(3,.sl 3 (.int .i64) (q.map stk))]
set_option maxRecDepth 20000 in
set_option maxHeartbeats 4000000 in
def fn4(hg:g64∈gs)(h6:FnZ (Laid gs) Tryz.prog 6 (.bool true))(x:Int)(hx:0≤x∧x≤255)(us:List (List Int))(hu':∀ u∈us,∀ y∈u,0≤y∧y≤255)(w:List Int)(hw:∀ y∈w,0≤y∧y≤255) :
  FnE gs Tryz.prog 4 (.acons (.val (.int .u8) x) (.acons (.val (.slice upT) us) (.acons (vU w) .anil))) (·=vB true):=by
 refine Ox.FnX.intro xok Tryz.func4 rfl Tryz.call4 (yyc rfl) (fun E M0 up hz=>?_);refine z9 ?_;refine JK.lenOf 1 rfl fun hlen=>?_;have hu:okU us:=fun u h=>by obtain⟨i,hi,e⟩:=yx5.1 h;have h2:(us.get ⟨i,hi⟩).length=2:=(hlen.2 i hi).1;refine⟨?_,hu' u h⟩;rw[← e];exact h2
 replace hlen:us.length≤9223372036854775807:=hlen.1;refine JK.lenOf 2 rfl fun hlen2=>?_;replace hlen2:w.length≤9223372036854775807:=hlen2.1;refine zK0 ?_;refine z5 rfl (fun hc=>?_) (fun hc=>?_)
 ·refine zK0 ?_;refine j32 rfl h6 hz rfl trivial ?_;refine zK0 ?_;refine⟨.inl rfl,_,_,rfl,trivial,?_⟩;rfl
 have hcc:us.length≤60∧w.length≤20:=by
  by_cases h1:(60:Int)<us.length
  ·simp[h1] at hc
  ·by_cases h2:(20:Int)<w.length
   ·simp[h1,h2] at hc
   ·omega
 obtain⟨hus,hwl⟩:=hcc;clear hc hlen hlen2;have hm1:=Int.emod_nonneg x (show(7:Int)≠0 by decide);have hm2:=Int.emod_lt_of_pos x (show(0:Int)<7 by decide);obtain⟨n,hn⟩:∃ n:Nat,2+x % 7=(n:Int):=⟨(2+x % 7).toNat,by omega⟩;have h2:2≤n:=by omega
 have h8:n≤8:=by omega
 refine zK0 ?_;rw[hn];have c16:=fn16 n h2 h8 us hu hus;have hV:=fr_vg h2 h8 us;have hN:=fr_nb h2 h8 us;have hlt:=j1r h2 h8 us;have hWf:=fr_win h2 h8;have hall:=q6e (n:=n) (by omega) us;have hlst:=fun o ho=>fr_lst h2 h8 us (o:=o) ho;have hsh:=fun o ho=>fr_sh h2 h8 us (o:=o) ho;have hpe:=fun o h1 h2' m=>pos_eq h2 h8 us (o:=o) h1 h2' m;have hirr:=fr_irr h2 h8 us;have hcrs:=j1s h2 h8 us;have hp28:(frP n us).length≤28:=z0g (q3u n us) fun p hp=>by obtain⟨i,k,k1,k2,k3⟩:=hall p hp;exact⟨i,k,k1,by omega,k3⟩
 have hCl:(List.replicate n frC).length=n:=List.length_replicate;generalize frP n us=ps at *;generalize List.replicate n frC=C at *
 (repeat (first|refine zs rfl ?_|refine zg rfl rfl rfl ?_|refine v6 ?_|refine w8 ?_|refine zc rfl (c16) rfl rfl ?_|refine ze rfl (c16) rfl ?_|refine zk rfl rfl (fun _=>c16) rfl rfl ?_))
 refine JK.ghost 10 3 (.int .i64) rfl ?_;refine JK.ghost 11 3 (.int .i64) rfl ?_;refine JK.loop (fun m:Nat=>⟨LW n ps w (ordE (pG ps) n w m),HW n C ps (ordE (pG ps) n w m),4⟩) (fun m=>m≤n) (fun m=>n-m) 0 (yyu _) (by exact zJ) fun m hm=>?_;have hql:=z50 hN w hm;have hsucc:ordE (pG ps) n w (m+1)=ordE (pG ps) n w m++[pick w m ((List.range n).filter (okc (pG ps) n (ordE (pG ps) n w m)))]:=rfl;have hfin:m=n→ordE (pG ps) n w m=ordE (pG ps) n w n:=fun e=>by rw[e]
 generalize ordE (pG ps) n w m=q at hql hsucc hfin ⊢;obtain⟨ql,qn,qm⟩:=m9 hql;have hbq:=q7k qm;have hbq2:bitsQ q<256:=yxa hbq (yxy (by decide) h8);have hoq:(oI q).length=m:=by rw[yxd,ql]
 have hoq2:(q.map stk).length=m:=by rw[yxd,ql]
 refine zK0 ?_;refine z5 rfl (fun hc=>?_) (fun hc=>?_)
 ·have hmn:m<n:=by have:=of_decide_eq_true hc;rw[hoq] at this;omega
  have hne:=z4i hN hql hmn;refine zK0 ?_;refine JK.ghost 14 3 (.int .i64) rfl ?_;refine JK.loop (fun c:Nat=>⟨LW n ps w q++[(14,.lf (.osl 4)),(15,vI (c:Int))],HW n C ps q++[(4,.sl 3 (.int .i64) (oI ((List.range c).filter (okc (pG ps) n q))))],5⟩) (fun c=>c≤n) (fun c=>n-c) 0 (yyu _) (by exact zJ) fun c hcn=>?_;have hFs:(List.range (c+1)).filter (okc (pG ps) n q)=if okc (pG ps) n q c=true then(List.range c).filter (okc (pG ps) n q)++[c] else(List.range c).filter (okc (pG ps) n q):=by
   rw[List.range_succ,List.filter_append];by_cases e:okc (pG ps) n q c=true
   ·rw[if_pos e,List.filter_cons_of_pos e];rfl
   ·rw[if_neg e,yx8 e];simp
  have hFl:((List.range c).filter (okc (pG ps) n q)).length≤c:=by have:=yx1 (okc (pG ps) n q) (List.range c);simpa using this
  have hFn:c=n→(List.range c).filter (okc (pG ps) n q)=(List.range n).filter (okc (pG ps) n q):=fun e=>by rw[e]
  generalize (List.range c).filter (okc (pG ps) n q)=F at hFs hFl hFn ⊢;have hFL:(oI F).length=F.length:=yxd ..;refine zK0 ?_;refine z5 rfl (fun hd=>?_) (fun hd=>?_)
  ·replace hd:=zC hd;have hcn':c<n:=by omega
   have hbt:=z1b (bitsQ q) c;have hxd:=xdiv (bitsQ q) c (by omega);have hb0:((((((bitsQ q:Nat):Int) / 2 ^ (Int.toNat (c:Int))).toNat &&& ((1:Int)).toNat:Nat):Int)==0)=okK ps q c 0:=by rw[hbt,q08,okK_zero];by_cases e:c∈q<;>simp[e]
   refine zK0 ?_;refine e8 (s':=⟨LW n ps w q++[(14,.lf (.osl 4)),(15,vI (c:Int)),(16,vB (okK ps q c 0)),(17,vI 0)],HW n C ps q++[(4,.sl 3 (.int .i64) (oI F))],5⟩) (by rw[← hb0];exact zJ) ?_;refine JK.loop (fun k:Nat=>⟨LW n ps w q++[(14,.lf (.osl 4)),(15,vI (c:Int)),(16,vB (okK ps q c k)),(17,vI (k:Int))],HW n C ps q++[(4,.sl 3 (.int .i64) (oI F))],5⟩) (fun k=>k≤ps.length) (fun k=>ps.length-k) 0 (yyu _) (by exact zJ) fun k hk=>?_;have hks:=fun h i j e=>okK_succ (ps:=ps) (q:=q) (c:=c) (k:=k) h (i:=i) (j:=j) e;have hkf:k=ps.length→okK ps q c k=okc (pG ps) n q c:=fun e=>by rw[e];exact okK_all hlt
   generalize okK ps q c k=b at hks hkf ⊢;refine zK0 ?_;refine z5 rfl (fun he=>?_) (fun he=>?_)
   ·replace he:=zC he;have hk':k<ps.length:=by omega
    obtain⟨i,j,ij,jn,e⟩:=hall ps[k] (yyy hk');have e3:ps.getD (Int.toNat (k:Int)) prT.dflt=[(i:Int),(j:Int)]:=by rw[Int.toNat_natCast,yyg,yyl hk'];exact e
    have hks:=hks hk' i j e3;have e0:(ps.getD (Int.toNat (k:Int)) (Ty.arr 2 (.int .i64)).dflt).getD (Int.toNat 0) (Ty.int .i64).dflt=(i:Int):=by rw[show(Ty.arr 2 (.int .i64)).dflt=prT.dflt from rfl,e3];rfl
    have e1:(ps.getD (Int.toNat (k:Int)) (Ty.arr 2 (.int .i64)).dflt).getD (Int.toNat 1) (Ty.int .i64).dflt=(j:Int):=by rw[show(Ty.arr 2 (.int .i64)).dflt=prT.dflt from rfl,e3];rfl
    have b0:0≤(ps.getD (Int.toNat (k:Int)) (Ty.arr 2 (.int .i64)).dflt).getD (Int.toNat 0) (Ty.int .i64).dflt∧(ps.getD (Int.toNat (k:Int)) (Ty.arr 2 (.int .i64)).dflt).getD (Int.toNat 0) (Ty.int .i64).dflt<8:=by rw[e0];omega
    have b1:0≤((bitsQ q:Nat):Int) / 2 ^ (Int.toNat ((ps.getD (Int.toNat (k:Int)) (Ty.arr 2 (.int .i64)).dflt).getD (Int.toNat 0) (Ty.int .i64).dflt))∧((bitsQ q:Nat):Int) / 2 ^ (Int.toNat ((ps.getD (Int.toNat (k:Int)) (Ty.arr 2 (.int .i64)).dflt).getD (Int.toNat 0) (Ty.int .i64).dflt))≤65536:=by rw[e0];exact xdiv (bitsQ q) i (by omega)
    have hB:okK ps q c (k+1)=(bif b then(bif ((ps.getD (Int.toNat (k:Int)) (Ty.arr 2 (.int .i64)).dflt).getD (Int.toNat 1) (Ty.int .i64).dflt != (c:Int)) then true else(((((((bitsQ q:Nat):Int) / 2 ^ (Int.toNat ((ps.getD (Int.toNat (k:Int)) (Ty.arr 2 (.int .i64)).dflt).getD (Int.toNat 0) (Ty.int .i64).dflt))).toNat &&& ((1:Int)).toNat:Nat):Int))==1)) else false):=by
     rw[hks,e0,e1,z1b,q08];have hjc:((j:Int) != (c:Int))=decide (j≠c):=by rw[yyz,decide_eq_true_iff,bne_iff_ne];omega
     rw[hjc];by_cases e:i∈q<;>simp[e]
    refine zK0 ?_;refine⟨k+1,?_,by omega,by omega⟩;rw[hB];exact zJ
   ·replace he:=zC he;rw[hkf (by omega)];refine zK0 ?_;refine z5 rfl (fun hf=>?_) (fun hf=>?_)
    ·rw[if_pos hf] at hFs;refine zK0 ?_;refine⟨c+1,?_,by omega,by omega⟩;rw[hFs];have:oI (F++[c])=oI F++[(c:Int)]:=by simp
     rw[this];exact zJ
    ·rw[if_neg (by rw[hf];simp)] at hFs;refine zK0 ?_;refine⟨c+1,?_,by omega,by omega⟩;rw[hFs];exact zJ
  ·replace hd:=zC hd;rw[hFn (by omega)];have hF8:((List.range n).filter (okc (pG ps) n q)).length≤n:=by have:=yx1 (okc (pG ps) n q) (List.range n);simpa using this
   have hFm:∀ c∈(List.range n).filter (okc (pG ps) n q),c<n:=fun c hc=>yyr.1 (yy5.1 hc).1;clear hFs hFl hFn hFL;generalize (List.range n).filter (okc (pG ps) n q)=F at *;have hFL:(oI F).length=F.length:=yxd ..;have hF0:=List.length_pos_iff.2 hne
   (repeat (first|refine zu rfl ?_|refine zg rfl rfl rfl ?_|refine v6 ?_|refine w8 ?_))
   refine JK.cut (σ:=Unit) (fun _=>⟨LW n ps w q++[(14,.lf (.osl 4)),(18,vI (pkI w m F.length:Nat))],HW n C ps q++[(4,.sl 3 (.int .i64) (oI F))],5⟩) (fun _=>True) ?_ (fun _ _=>?_)
   ·by_cases hw0:0<w.length
    ·have hpk:pkI w m F.length=(w.getD (m % w.length) 0).toNat % F.length:=if_pos hw0;have hmm:m % w.length<w.length:=Nat.mod_lt _ hw0;have hwm:=hw (w.getD (m % w.length) 0) (q8e _ hmm);refine zK0 ?_;have wi:((oI q).length:Int) % (w.length:Int)=((m % w.length:Nat):Int):=by rw[hoq];rfl
     have wb:0≤((oI q).length:Int) % (w.length:Int)∧((oI q).length:Int) % (w.length:Int)<w.length:=by rw[wi];omega
     have wz:w.getD (Int.toNat (((oI q).length:Int) % (w.length:Int))) (Ty.int .u8).dflt=w.getD (m % w.length) 0:=by rw[wi];rfl
     rw[← wz] at hwm hpk;have hfl0:((oI F).length:Int)≠0:=by omega
     have hml:=Int.emod_nonneg (w.getD (Int.toNat (((oI q).length:Int) % (w.length:Int))) (Ty.int .u8).dflt) hfl0;have hml2:=Int.emod_lt_of_pos (w.getD (Int.toNat (((oI q).length:Int) % (w.length:Int))) (Ty.int .u8).dflt) (show 0<((oI F).length:Int) by omega);refine z5 rfl (fun _=>?_) (fun h=>by have:=of_decide_eq_false h;omega);refine zK0 ?_;refine⟨(),?_,trivial⟩;have hpe:((pkI w m F.length:Nat):Int)=w.getD (Int.toNat (((oI q).length:Int) % (w.length:Int))) (Ty.int .u8).dflt % ((oI F).length:Int):=by rw[hpk,hFL];generalize w.getD (Int.toNat (((oI q).length:Int) % (w.length:Int))) (Ty.int .u8).dflt=v at hwm;rw[Int.natCast_emod,Int.toNat_of_nonneg hwm.1]
     rw[hpe];exact zJ
    ·have hpk:pkI w m F.length=0:=if_neg hw0;refine zK0 ?_;refine z5 rfl (fun h=>by have:=of_decide_eq_true h;omega) (fun _=>?_);refine zK0 ?_;refine⟨(),?_,trivial⟩;rw[hpk];exact zJ
   ·have hpl:pkI w m F.length<F.length:=by
     unfold pkI;split
     ·exact Nat.mod_lt _ hF0
     ·exact hF0
    have hpk:Gl.pick w m F=F.getD (pkI w m F.length) 0:=rfl;rw[hpk] at hsucc;have hgo:(oI F).getD (Int.toNat ((pkI w m F.length:Nat):Int)) (Ty.int .i64).dflt=((F.getD (pkI w m F.length) 0:Nat):Int):=by rw[Int.toNat_natCast,yyg,yyg,List.getElem?_map,yyl hpl];rfl
    have hcl:=hFm (F.getD (pkI w m F.length) 0) (by rw[yyg,yyl hpl];exact yyy hpl)
    generalize pkI w m F.length=pi at hpl hgo hcl hsucc ⊢;have a1:oI (q++[F.getD pi 0])=oI q++[(oI F).getD (Int.toNat (pi:Int)) (Ty.int .i64).dflt]:=by rw[hgo];simp
    have a2:(q++[F.getD pi 0]).map stk=q.map stk++[(oI F).getD (Int.toNat (pi:Int)) (Ty.int .i64).dflt+1]:=by rw[hgo];simp[stk]
    have a3:((bitsQ (q++[F.getD pi 0]):Nat):Int)=(((((bitsQ q:Nat):Int)).toNat ||| ((1:Int)*2 ^ (Int.toNat ((oI F).getD (Int.toNat (pi:Int)) (Ty.int .i64).dflt))).toNat:Nat):Int):=by rw[hgo,q2l,Int.toNat_natCast,Int.toNat_natCast,q3q]
    have hpc:=q07 (n:=F.getD pi 0) (by omega);have hpb:1≤(2:Int) ^ (Int.toNat ((oI F).getD (Int.toNat (pi:Int)) (Ty.int .i64).dflt))∧(2:Int) ^ (Int.toNat ((oI F).getD (Int.toNat (pi:Int)) (Ty.int .i64).dflt))≤1024:=by rw[hgo,Int.toNat_natCast];exact⟨hpc.1,hpc.2.1⟩
    have hgb:0≤(oI F).getD (Int.toNat (pi:Int)) (Ty.int .i64).dflt∧(oI F).getD (Int.toNat (pi:Int)) (Ty.int .i64).dflt<8:=by rw[hgo];omega
    refine zK0 ?_;refine⟨m+1,?_,by omega,by omega⟩;rw[hsucc];dsimp only[LW,HW];rw[a1,a2,a3];exact zJ
 ·have hmn:m=n:=by have:=of_decide_eq_false hc;rw[hoq] at this;omega
  subst hmn;have hfq:=hfin rfl;clear hsucc hfin hbq hbq2;have hperm:=q0v hql;have hlin:=(q57 (fun a c h=>by have:=hlt a c h;omega) hql).2;have hisO:isO C.length (oI q):=by rw[hCl];exact hperm.map _
  have hche:cheG 1 C ps (oI q)=0:=che_zero hV hWf hisO hlin;have hf:=z0w hN;have c17:=fn17 hg hV hWf;have c18:=fn18 hV hWf;have c8:=fn8 hV hisO;rw[hche] at c8;rw[hCl] at c17 c18;have c19:=fn19 (hlst q hperm);rw[hsh q hql] at c19;have hperm2:=q0v hf;have hflen:=(m9 hf).1;have c20:=fn20 (hlst q hperm) (by rw[hsh q hql];exact q9j (hlst _ hperm2)) (by rw[hsh q hql,yxd];omega);rw[hsh q hql] at c20;have hcnt:=hpe (fstO (pG ps) m) (m9 hf).2.1 hflen m;rw[pos_len (fun a c h=>by have:=hlt a c h;omega) hirr hf] at hcnt;have hfm8:((fstO (pG ps) m).map stk).length=m:=by rw[yxd,hflen]
  rw[hfm8,hcnt] at c20;have c21:=fn21 hcrs hirr h8 hperm hlin (hlst q hperm);have c22:=fn22 (hlst q hperm) (hlst _ hperm2);rw[hsh q hql,hsh _ hf,if_pos rfl] at c22;have hqq:∀ p∈ps,q0 p<q1 p:=fun p hp=>by
   obtain⟨i,k,ik,km,e⟩:=hall p hp;subst e;have h1:q1 [(i:Int),(k:Int)]=k:=by show Int.toNat (k:Int)=k;omega
   have h0:q0 [(i:Int),(k:Int)]=i:=by show Int.toNat (i:Int)=i;omega
   omega
  have hbr:=lngS_lng (a0:=q0) (a1:=q1) (B:=ps) (n:=m) hqq;generalize hG:(lvl (pG ps) m m).length=G at c18 c20;have hrm:((roundsR (crs ps) 60 (plR ps (q.map stk))).length:Int)=mostR ps m m:=by
   have hlS:=fun c (hc:c<m)=>(q76 (a0:=q0) (a1:=q1) (n:=m) hqq m (yym _) c hc).1;obtain⟨cm,cm1,cm2⟩:=z58 (lngS q0 q1 ps m m) (n:=m) hlS (by omega);have hb:=z6a (n:=m) hqq m;rw[z59 m (yym _)] at hb ⊢;have:=z33 (P:=pG ps) (n:=m) (most:=(mostS (lngS q0 q1 ps m m) m).toNat) hirr h8 hN (fun a c h=>by have:=hlt a c h;omega) hbr (fun c hc=>by have:=z57 (lngS q0 q1 ps m m) hc;show Int.toNat _≤Int.toNat _;omega) ⟨cm,cm1,by show Int.toNat _=Int.toNat _;rw[cm2]⟩ hql (m:=60) (by omega)
   rw[← hcrs] at this;change ((roundsR (crs ps) 60 (plR ps (q.map stk))).length:Int)=_;unfold plR;rw[this];omega
  generalize roundsR (crs ps) 60 (plR ps (q.map stk))=RR at c21 hrm;clear hbr hsh hpe hlst hlin hche hcnt;generalize fstO (pG ps) m=f at *
  (refine z1j [2,3] [2,6,7,8,9,10,11,12] rfl ?_)
  refine zK0 ?_;refine j31 (gs:=gs) hz rfl c17 rfl trivial ?_
  (repeat (first|refine zs rfl ?_|refine zg rfl rfl rfl ?_|refine v6 ?_|refine w8 ?_|refine zc rfl (c18) rfl rfl ?_|refine ze rfl (c18) rfl ?_|refine zk rfl rfl (fun _=>c18) rfl rfl ?_|refine zc rfl (c8) rfl rfl ?_|refine ze rfl (c8) rfl ?_|refine zk rfl rfl (fun _=>c8) rfl rfl ?_))
  refine z5 rfl (fun h=>absurd h (by decide)) (fun _=>?_);refine JK.ghost 12 3 (.int .i64) rfl ?_;refine zK0 ?_;have hof:(oI f).length=f.length:=yxd ..;refine JK.loop (fun k:Nat=>⟨[(6,vB false),(7,vI (m:Int)),(8,.lf (.optr 0 [])),(9,.lf (.optr 1 [])),(11,vL (q.map stk)),(12,.lf (.osl 2)),(19,vL (oI f)),(21,vI (G:Nat)),(23,vI (k:Int))],
   [(0,.cell glT (vG 1 C ps)),(1,.cell beT (vBe m ps)),(2,.sl 3 (.int .i64) ((f.take k).map stk))],3⟩) (fun k=>k≤f.length) (fun k=>f.length-k) 0 (yyu _) (by exact zJ) fun k hk=>?_
  have htk:=fun h:k<f.length=>show(f.take (k+1)).map stk=(f.take k).map stk++[stk (f.getD k 0)] by rw[yy2 h,yx2,yyg,yyl h];rfl
  have htl:((f.take k).map stk).length=k:=by rw[yxd,yxe];omega
  have htf:k=f.length→(f.take k).map stk=f.map stk:=fun e=>by rw[e,yxq]
  generalize (f.take k).map stk=D at htk htl htf ⊢;refine zK0 ?_;refine z5 rfl (fun hd=>?_) (fun hd=>?_)
  ·replace hd:=zC hd;have hk':k<f.length:=by omega
   have hfk:(oI f).getD (Int.toNat (k:Int)) (Ty.int .i64).dflt=((f.getD k 0:Nat):Int):=by rw[Int.toNat_natCast,yyg,yyg,List.getElem?_map,yyl hk'];rfl
   have hfb:f.getD k 0<m:=by have:=hperm2.mem_iff.1 (show f.getD k 0∈f by rw[yyg,yyl hk'];exact yyy hk');exact yyr.1 this
   have hfb2:0≤(oI f).getD (Int.toNat (k:Int)) (Ty.int .i64).dflt∧(oI f).getD (Int.toNat (k:Int)) (Ty.int .i64).dflt<8:=by rw[hfk];omega
   have htk2:(f.take (k+1)).map stk=D++[(oI f).getD (Int.toNat (k:Int)) (Ty.int .i64).dflt+1]:=by rw[htk hk',hfk];rfl
   refine zK0 ?_;refine⟨k+1,?_,by omega,by omega⟩;rw[htk2];exact zJ
  ·replace hd:=zC hd;rw[htf (by omega)];clear htk htl htf c17 c18 c8 hof hd;have hsl:(f.map stk).length=m:=hfm8
   (refine z1j [2] [6,7,8,9,11,12,21] rfl ?_)
   generalize q.map stk=ql' at *;generalize f.map stk=S at *
   (repeat (first|refine zs rfl ?_|refine zg rfl rfl rfl ?_|refine v6 ?_|refine w8 ?_|refine zc rfl (c19) rfl rfl ?_|refine ze rfl (c19) rfl ?_|refine zk rfl rfl (fun _=>c19) rfl rfl ?_|refine zc rfl (c20) rfl rfl ?_|refine ze rfl (c20) rfl ?_|refine zk rfl rfl (fun _=>c20) rfl rfl ?_|refine zc rfl (c21) rfl rfl ?_|refine ze rfl (c21) rfl ?_|refine zk rfl rfl (fun _=>c21) rfl rfl ?_|refine zc rfl (c22) rfl rfl ?_|refine ze rfl (c22) rfl ?_|refine zk rfl rfl (fun _=>c22) rfl rfl ?_))
   refine z5 rfl (fun h=>absurd h (by simp)) (fun _=>?_);clear c19 c20 c21 c22;have hSl:S.length=m:=hsl;refine zK0 ?_;refine JK.loop (fun k:Nat=>⟨[(6,vB false),(7,vI (m:Int)),(8,.lf (.optr 0 [])),(12,vL S),(24,vL S),(26,vLL RR),(28,vI (k:Int))],
    [(0,.cell glT (vG 1 C ps))],2⟩) (fun k=>k≤S.length) (fun k=>S.length-k) 0 (yyu _) (by exact zJ) fun k hk=>?_
   refine zK0 ?_;refine z5 rfl (fun hd=>?_) (fun hd=>?_)
   ·replace hd:=zC hd;refine zK0 ?_;refine p4 xk (Tryz.f4.body.getD .skip) ⟨[(6,vB false),(7,vI (m:Int)),(8,.lf (.optr 0 [])),(12,vL S),(24,vL S),(26,vLL RR),(28,vI (k:Int)),(236,vB (S.getD (Int.toNat (k:Int)) (Ty.int .i64).dflt != S.getD (Int.toNat (k:Int)) (Ty.int .i64).dflt))],
     [(0,.cell glT (vG 1 C ps))],2⟩ rfl 9 rfl ?_ ?_
    ·(refine q7 0 xk rfl rfl (q7 1 xk rfl rfl (q7 2 xk rfl rfl (q7 4 xk rfl rfl (q7 5 xk rfl rfl (q7 6 xk rfl rfl (z7 3 xk rfl rfl (z7 7 xk rfl rfl (z7 8 xk rfl rfl ?_))))))));refine w7 xk ?_ ?_;exact zS;(exact zJ))
    refine zK0 ?_;refine z5 rfl (fun h=>absurd h (by simp)) (fun _=>?_);refine zK0 ?_;exact⟨k+1,by exact zJ,by omega,by omega⟩
   ·replace hd:=zC hd;clear hd hk;have hL0:lngS q0 q1 ps m 0=List.replicate (Int.toNat (m:Int)) (Ty.int .i64).dflt:=by rw[Int.toNat_natCast];rfl
    refine zK0 ?_;refine JK.loop (fun c:Nat=>⟨[(6,vB false),(7,vI (m:Int)),(8,.lf (.optr 0 [])),(26,vLL RR),(29,.lf (.osl 2)),(30,vI (mostR ps m c)),(31,vI (c:Int))],
     [(0,.cell glT (vG 1 C ps)),(2,.sl 3 (.int .i64) (lngS q0 q1 ps m c))],3⟩) (fun c=>c≤m) (fun c=>m-c) 0 (yyu _) (by rw[hL0];exact zJ) fun c hcm=>?_
    have hms:mostR ps m (c+1)=max (mostR ps m c) ((lngS q0 q1 ps m (c+1)).getD c 0):=rfl;have hmf:c=m→mostR ps m c=((RR.length:Nat):Int):=fun e=>by rw[e,hrm]
    have hls:lngS q0 q1 ps m (c+1)=ps.foldl (lngP q0 q1 c) ((lngS q0 q1 ps m c).set c 1):=rfl;have hll:=z0p (a0:=q0) (a1:=q1) ps m c;have hok0:=z4h (n:=m) hqq c;generalize hT1:lngS q0 q1 ps m (c+1)=T1 at hms hls;generalize lngS q0 q1 ps m c=T0 at hls hll hok0 ⊢;generalize hM1:mostR ps m (c+1)=M1 at hms;generalize mostR ps m c=M0' at hms hmf ⊢;refine zK0 ?_;refine z5 rfl (fun hd=>?_) (fun hd=>?_)
    ·replace hd:=zC hd;have hcm':c<m:=by omega
     have hset:okT (T0.set c 1):=z4g hok0 (by omega) (by omega);have hsl0:(T0.set c 1).length=m:=by rw[List.length_set,hll]
     refine zK0 ?_;refine JK.loop (fun k:Nat=>⟨[(6,vB false),(7,vI (m:Int)),(8,.lf (.optr 0 [])),(26,vLL RR),(29,.lf (.osl 2)),(30,vI M0'),(31,vI (c:Int)),(32,vI (k:Int))],
      [(0,.cell glT (vG 1 C ps)),(2,.sl 3 (.int .i64) ((ps.take k).foldl (lngP q0 q1 c) (T0.set c 1)))],3⟩) (fun k=>k≤ps.length) (fun k=>ps.length-k) 0 (yyu _) (by rw[List.take_zero,List.foldl_nil];exact zJ) fun k hk=>?_
     have hks:=fun h:k<ps.length=>show(ps.take (k+1)).foldl (lngP q0 q1 c) (T0.set c 1)=lngP q0 q1 c ((ps.take k).foldl (lngP q0 q1 c) (T0.set c 1)) ps[k] by rw[yy2 h,List.foldl_append];rfl
     have hkl:=q4o (c:=c) (ps.take k) (T0.set c 1);have hko:okT ((ps.take k).foldl (lngP q0 q1 c) (T0.set c 1)):=z0h _ (fun p hp=>hqq p (List.mem_of_mem_take hp)) hset;have hkf:k=ps.length→(ps.take k).foldl (lngP q0 q1 c) (T0.set c 1)=T1:=fun e=>by rw[e,yxq,hls]
     rw[hsl0] at hkl;generalize (ps.take k).foldl (lngP q0 q1 c) (T0.set c 1)=D at hks hkl hko hkf ⊢;refine zK0 ?_;refine z5 rfl (fun he=>?_) (fun he=>?_)
     ·replace he:=zC he;have hk':k<ps.length:=by omega
      have hks:=hks hk';obtain⟨i,j,ij,jn,e⟩:=hall ps[k] (yyy hk');have e3:ps.getD (Int.toNat (k:Int)) prT.dflt=[(i:Int),(j:Int)]:=by rw[Int.toNat_natCast,yyg,yyl hk'];exact e
      have e0:(ps.getD (Int.toNat (k:Int)) (Ty.arr 2 (.int .i64)).dflt).getD (Int.toNat 0) (Ty.int .i64).dflt=(i:Int):=by rw[show(Ty.arr 2 (.int .i64)).dflt=prT.dflt from rfl,e3];rfl
      have e1:(ps.getD (Int.toNat (k:Int)) (Ty.arr 2 (.int .i64)).dflt).getD (Int.toNat 1) (Ty.int .i64).dflt=(j:Int):=by rw[show(Ty.arr 2 (.int .i64)).dflt=prT.dflt from rfl,e3];rfl
      have hq1:q1 ps[k]=j:=by rw[e];show Int.toNat (j:Int)=j;omega
      have hq0:q0 ps[k]=i:=by rw[e];show Int.toNat (i:Int)=i;omega
      have hks2:lngP q0 q1 c D ps[k]=if j=c then D.set c (max (D.getD c 0) (D.getD i 0+1)) else D:=by unfold lngP;rw[hq1,hq0]
      rw[hks2] at hks;refine zK0 ?_;refine z5 rfl (fun hf=>?_) (fun hf=>?_)
      ·have hjc:j=c:=by have:=eq_of_beq hf;rw[e1] at this;omega
       rw[if_pos hjc] at hks;have b0:0≤(ps.getD (Int.toNat (k:Int)) (Ty.arr 2 (.int .i64)).dflt).getD (Int.toNat 0) (Ty.int .i64).dflt∧(ps.getD (Int.toNat (k:Int)) (Ty.arr 2 (.int .i64)).dflt).getD (Int.toNat 0) (Ty.int .i64).dflt<m:=by rw[e0];omega
       have hoi:=hko i;have hdz:D.getD (Int.toNat ((ps.getD (Int.toNat (k:Int)) (Ty.arr 2 (.int .i64)).dflt).getD (Int.toNat 0) (Ty.int .i64).dflt)) (Ty.int .i64).dflt=D.getD i 0:=by rw[e0];rfl
       have hdb:0≤D.getD (Int.toNat ((ps.getD (Int.toNat (k:Int)) (Ty.arr 2 (.int .i64)).dflt).getD (Int.toNat 0) (Ty.int .i64).dflt)) (Ty.int .i64).dflt∧D.getD (Int.toNat ((ps.getD (Int.toNat (k:Int)) (Ty.arr 2 (.int .i64)).dflt).getD (Int.toNat 0) (Ty.int .i64).dflt)) (Ty.int .i64).dflt≤100:=by rw[hdz];omega
       refine zK0 ?_;refine q0z xk (Tryz.f4.body.getD .skip) ⟨[(6,vB false),(7,vI (m:Int)),(8,.lf (.optr 0 [])),(26,vLL RR),(29,.lf (.osl 2)),(30,vI M0'),(31,vI (c:Int)),(32,vI (k:Int))],
        [(0,.cell glT (vG 1 C ps)),(2,.sl 3 (.int .i64) (D.set (Int.toNat (c:Int)) (max (D.getD (Int.toNat (c:Int)) (Ty.int .i64).dflt) (D.getD (Int.toNat ((ps.getD (Int.toNat (k:Int)) (Ty.arr 2 (.int .i64)).dflt).getD (Int.toNat 0) (Ty.int .i64).dflt)) (Ty.int .i64).dflt+1))))],3⟩ rfl 19 rfl ?_ ?_
       ·(refine q7 0 xk rfl rfl (q7 1 xk rfl rfl (q7 2 xk rfl rfl (q7 3 xk rfl rfl (q7 4 xk rfl rfl (q7 6 xk rfl rfl (q7 7 xk rfl rfl (q7 9 xk rfl rfl (z7 5 xk rfl rfl (z7 8 xk rfl rfl (z7 10 xk rfl rfl (z7 11 xk rfl rfl (z7 12 xk rfl rfl (z7 13 xk rfl rfl (z7 14 xk rfl rfl (z7 15 xk rfl rfl (z7 16 xk rfl rfl (z7 17 xk rfl rfl (zU 18 xk rfl rfl ?_))))))))))))))))));exact zB7)
       have hdd:D.set (Int.toNat (c:Int)) (max (D.getD (Int.toNat (c:Int)) (Ty.int .i64).dflt) (D.getD (Int.toNat ((ps.getD (Int.toNat (k:Int)) (Ty.arr 2 (.int .i64)).dflt).getD (Int.toNat 0) (Ty.int .i64).dflt)) (Ty.int .i64).dflt+1))=(ps.take (k+1)).foldl (lngP q0 q1 c) (T0.set c 1):=by rw[hks,hdz,Int.toNat_natCast];rfl
       rw[hdd];refine zK0 ?_;exact⟨k+1,by exact zJ,by omega,by omega⟩
      ·have hjc:¬ j=c:=fun h=>by rw[e1,h] at hf;simp at hf
       rw[if_neg hjc] at hks;rw[← hks];refine zK0 ?_;exact⟨k+1,by exact zJ,by omega,by omega⟩
     ·replace he:=zC he;rw[hkf (by omega)];have hT1l:T1.length=m:=by rw[hls,q4o,hsl0]
      refine zK0 ?_;refine⟨c+1,?_,by omega,by omega⟩;show JW _ ⟨[(6,vB false),(7,vI (m:Int)),(8,.lf (.optr 0 [])),(26,vLL RR),(29,.lf (.osl 2)),(30,vI (mostR ps m (c+1))),(31,vI ((c+1:Nat):Int))],[(0,.cell glT (vG 1 C ps)),(2,.sl 3 (.int .i64) (lngS q0 q1 ps m (c+1)))],3⟩ _;rw[hM1,hT1,hms];exact zJ
    ·replace hd:=zC hd;rw[hmf (by omega)];refine zK0 ?_;refine z8i rfl ?_ rfl h6 hz rfl trivial ?_
     ·simp[wantB]
     refine zK0 ?_;refine⟨.inl rfl,_,_,rfl,trivial,?_⟩;simp
end Go.Proofs.YtjjkdjbbkagclaaGreatDoor
namespace Go.Proofs.YtjjkdjbbkagclaaGreatDoor
open Go Go.RowKit Ox Ox.Rn
attribute [local irreducible] JC JL JK JW
variable {gs:List Gt}
def works03(h1:FnZ (Laid gs) Tryz.prog 93 (.bool true))(h2:FnZ (Laid gs) Tryz.prog 94 (.bool true))(h3:FnZ (Laid gs) Tryz.prog 95 (.bool true)):FnZ (Laid gs) Tryz.prog 54 (.bool true):=by refine z5e (r:=vB true) rfl (Ox.FnX.intro xok Tryz.func54 rfl Tryz.call54 (yyc rfl) (fun E M0 up hz=>?_));refine z9 ?_;refine zK0 ?_;refine z1k rfl h1 hz rfl trivial ?_;refine zK0 ?_;refine q5v rfl rfl rfl h2 hz rfl trivial ?_;refine zK0 ?_;refine q5v rfl rfl rfl h3 hz rfl trivial ?_;refine zK0 ?_;refine⟨.inl rfl,_,_,rfl,trivial,?_⟩;rfl
def works04(h1:FnZ (Laid gs) Tryz.prog 54 (.bool true))(h2:FnZ (Laid gs) Tryz.prog 55 (.bool true)):FnZ (Laid gs) Tryz.prog 24 (.bool true):=by refine z5e (r:=vB true) rfl (Ox.FnX.intro xok Tryz.func24 rfl Tryz.call24 (yyc rfl) (fun E M0 up hz=>?_));refine z9 ?_;refine zK0 ?_;refine z1k rfl h1 hz rfl trivial ?_;refine zK0 ?_;refine q5v rfl rfl rfl h2 hz rfl trivial ?_;refine zK0 ?_;refine⟨.inl rfl,_,_,rfl,trivial,?_⟩;rfl
def works05(h1:FnZ (Laid gs) Tryz.prog 24 (.bool true))(h2:FnZ (Laid gs) Tryz.prog 25 (.bool true)):FnZ (Laid gs) Tryz.prog 6 (.bool true):=by refine z5e (r:=vB true) rfl (Ox.FnX.intro xok Tryz.func6 rfl Tryz.call6 (yyc rfl) (fun E M0 up hz=>?_));refine z9 ?_;refine zK0 ?_;refine z1k rfl h1 hz rfl trivial ?_;refine zK0 ?_;refine q5v rfl rfl rfl h2 hz rfl trivial ?_;refine zK0 ?_;refine⟨.inl rfl,_,_,rfl,trivial,?_⟩;rfl
end Go.Proofs.YtjjkdjbbkagclaaGreatDoor
