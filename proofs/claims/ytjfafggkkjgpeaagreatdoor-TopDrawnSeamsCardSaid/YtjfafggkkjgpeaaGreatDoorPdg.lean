/- Texts of the proof of the statement that the last text proves. -/
import Derived.Test.YtjfafggkkjgpeaaGreatDoorPdf
import Derived.ProofKit
import Derived.OpenShut
import Derived.Carry
import Derived.JoinedOf
import Derived.FnData
import GoSem.ClaimJoined
set_option linter.all false
set_option maxHeartbeats 2000000
namespace Go.Proofs.YtjfafggkkjgpeaaGreatDoor
open Go Go.RowKit Ox Ox.Sh Ox.Se
attribute [local irreducible] JC JL JK JW
attribute [local irreducible] ovA stA pkV
abbrev vU(by_:List Int):AV:=.val (.slice (.int .u8)) by_
def kO(u:List Int)(n:Nat):Nat:=if u.length>0 then(u.getD (n % u.length) 0).toNat % (n+1) else n
def ordR(u:List Int):Nat→List Nat
 |0=>[]
 |n+1=>(ordR u n).take (kO u n)++[n]++(ordR u n).drop (kO u n)
theorem kO_le(u:List Int)(n:Nat):kO u n≤n:=by
 unfold kO
 split
 ·have:=Nat.mod_lt (u.getD (n % u.length) 0).toNat (show 0<n+1 by omega);omega
 ·exact Nat.le_refl n
theorem q5s(u:List Int):∀ n,List.Perm (ordR u n) (List.range n)
 |0=>.nil
 |n+1=>by
  rw[ordR,List.range_succ,List.append_assoc,List.singleton_append]
  have h:=q5s u n
  have h2:List.Perm ((ordR u n).take (kO u n)++n::(ordR u n).drop (kO u n)) (n::((ordR u n).take (kO u n)++(ordR u n).drop (kO u n))):=List.perm_middle
  rw[List.take_append_drop] at h2
  refine h2.trans ?_
  refine(h.cons n).trans ?_
  have:=List.perm_append_comm (l₁:=[n]) (l₂:=List.range n)
  exact this
theorem z1x(u:List Int)(n:Nat):(ordR u n).length=n:=by rw[(q5s u n).length_eq,List.length_range]
theorem fn8(P:Int)(l:List Pt)(u:List Int)(h8:l.length≤1000)(hu:∀ x∈u,0≤x∧x≤255)(hul:u.length≤1000):Ox.Fn Tryz.prog 8 (.acons (vS P l) (.acons (vU u) .anil)) (·=vL (iL (ordR u l.length))):=by
 refine Ox.Fn.intro xok Tryz.func8 rfl Tryz.call8 (Nat.le_of_ble_eq_true rfl) (fun E M0 up=>?_)
 refine j4 ?_
 (repeat (first|refine zs rfl ?_|refine zg rfl rfl rfl ?_|refine zd ?_|refine q9 ?_|refine q8 ?_|refine zne eqT rfl rfl rfl ?_))
 refine JK.ghost 5 3 (.int .i64) rfl ?_
 refine JK.loop (fun i:Nat=>⟨[(1,vU u),(2,.lf (.optr 0 [])),(5,.lf (.osl 1)),(6,vI (i:Int))],[(0,.cell seT (vS P l)),(1,.sl 3 (.int .i64) (iL (ordR u i)))],2⟩)
  (fun i=>i≤l.length) (fun i=>l.length-i) 0 (Nat.zero_le _) (by(exact z7 (by conv=>lhs;reduce))) fun i hi=>?_
 have hlen:=z1x u i
 have hil:(iL (ordR u i)).length=i:=by rw[List.length_map];exact hlen
 have hk:=kO_le u i
 have hst:iL (ordR u (i+1))=(iL (ordR u i)).take (kO u i)++[(i:Int)]++(iL (ordR u i)).drop (kO u i):=by
  rw[ordR];simp
 have hkv:kO u i=if u.length>0 then(u.getD (i % u.length) 0).toNat % (i+1) else i:=rfl
 have hfin:i=l.length→iL (ordR u i)=iL (ordR u l.length):=fun e=>by rw[e]
 clear hlen
 generalize iL (ordR u i)=X at hil hst hfin ⊢
 (repeat (first|refine zs rfl ?_|refine zg rfl rfl rfl ?_|refine zd ?_|refine q9 ?_|refine q8 ?_|refine zne eqT rfl rfl rfl ?_))
 refine z8 rfl (fun hc=>?_) (fun hc=>?_)
 ·(simp only[↓cdL] at hc;try simp only[Ty.dflt,Int.toNat_natCast] at hc)
  (refine JK.fz [1] [1,2,5,6] rfl ?_)
  (repeat (first|refine zu rfl ?_|refine zg rfl rfl rfl ?_|refine zd ?_|refine q9 ?_|refine q8 ?_|refine zne eqT rfl rfl rfl ?_))
  refine JK.cut (fun _:Unit=>⟨[(1,vU u),(2,.lf (.optr 0 [])),(5,vL X),(6,vI (i:Int)),(7,vI (kO u i:Nat))],[(0,.cell seT (vS P l))],2⟩) (fun _=>True) ?_ (fun _ _=>?_)
  ·(repeat (first|refine zs rfl ?_|refine zg rfl rfl rfl ?_|refine zd ?_|refine q9 ?_|refine q8 ?_|refine zne eqT rfl rfl rfl ?_))
   refine z8 rfl (fun hd=>?_) (fun hd=>?_)
   ·(simp only[↓cdL] at hd;try simp only[Ty.dflt,Int.toNat_natCast] at hd)
    have hmc:(i:Int) % (u.length:Int)=((i % u.length:Nat):Int):=by push_cast;rfl
    have hml:=Nat.mod_lt i (show 0<u.length by omega)
    have hm1:0≤(i:Int) % (u.length:Int)∧(i:Int) % (u.length:Int)<(u.length:Int):=by rw[hmc];omega
    have hm2:0≤u.getD ((i:Int) % (u.length:Int)).toNat 0∧u.getD ((i:Int) % (u.length:Int)).toNat 0≤255:=hu _ (by rw[j6 u (by rw[hmc,Int.toNat_natCast];exact hml)];exact List.getElem_mem _)
    rw[if_pos (by omega)] at hkv
    have hx1:(X.length:Int)+1≠0:=by omega
    have hkI:((kO u i:Nat):Int)=u.getD ((i:Int) % (u.length:Int)).toNat 0 % ((X.length:Int)+1):=by
     rw[hkv,hil,hmc,Int.toNat_natCast]
     rw[hmc,Int.toNat_natCast] at hm2
     push_cast
     rw[Int.toNat_of_nonneg hm2.1]
    rw[hkI]
    (repeat (first|refine zs rfl ?_|refine zg rfl rfl rfl ?_|refine zd ?_|refine q9 ?_|refine q8 ?_|refine zne eqT rfl rfl rfl ?_))
    exact⟨(),by(exact z7 (by conv=>lhs;reduce)),trivial⟩
   ·(simp only[↓cdL] at hd;try simp only[Ty.dflt,Int.toNat_natCast] at hd)
    rw[if_neg (by omega)] at hkv
    (repeat (first|refine zs rfl ?_|refine zg rfl rfl rfl ?_|refine zd ?_|refine q9 ?_|refine q8 ?_|refine zne eqT rfl rfl rfl ?_))
    refine⟨(),?_,trivial⟩
    rw[hkv,← hil]
    (exact z7 (by conv=>lhs;reduce))
  ·have hb1:(List.take (kO u i) X).length≤1000:=by rw[List.length_take];omega
   have hb2:(List.drop (kO u i) X).length≤1000:=by rw[List.length_drop];omega
   have hb3:(List.take (kO u i) X++[(i:Int)]).length≤1001:=by rw[List.length_append];simp;omega
   have hb4:(List.take (kO u i) X++[(i:Int)]++List.drop (kO u i) X).length≤2001:=by rw[List.length_append];omega
   (repeat (first|refine zs rfl ?_|refine zg rfl rfl rfl ?_|refine zd ?_|refine q9 ?_|refine q8 ?_|refine zne eqT rfl rfl rfl ?_))
   refine⟨i+1,?_,by omega,by omega⟩
   rw[hst]
   (exact z7 (by conv=>lhs;reduce))
 ·(simp only[↓cdL] at hc;try simp only[Ty.dflt,Int.toNat_natCast] at hc)
  rw[hfin (by omega)]
  (repeat (first|refine zs rfl ?_|refine zg rfl rfl rfl ?_|refine zd ?_|refine q9 ?_|refine q8 ?_|refine zne eqT rfl rfl rfl ?_))
  refine⟨.inl rfl,_,_,rfl,trivial,?_⟩
  rfl
end Go.Proofs.YtjfafggkkjgpeaaGreatDoor
namespace Go.Proofs.YtjfafggkkjgpeaaGreatDoor
open Go Go.RowKit Ox Ox.Se Ox.St
def wL(z:List Int)(a c:Nat):List Int:=(List.range c).map fun j=>z.getD ((a+j) % z.length) 0
theorem q7i(z:List Int)(a c:Nat):wL z a (c+1)=wL z a c++[z.getD ((a+c) % z.length) 0]:=by simp[wL,List.range_succ]
theorem z1j(z:List Int)(a c:Nat):(wL z a c).length=c:=by simp[wL]
theorem wL_add(z:List Int)(a c:Nat):∀ d,wL z a (c+d)=wL z a c++wL z (a+c) d
 |0=>by simp[wL]
 |d+1=>by rw[← Nat.add_assoc,q7i,wL_add z a c d,q7i,List.append_assoc,Nat.add_assoc]
theorem wL_mod(z:List Int)(a k d:Nat):wL z (a+k*z.length) d=wL z a d:=by
 unfold wL
 refine List.map_congr_left fun j _=>?_
 rw[show a+k*z.length+j=a+j+k*z.length by omega,Nat.add_mul_mod_self_right]
theorem wL_full{z:List Int}{a:Nat}(h:a<z.length):wL z a z.length=z.drop a++z.take a:=by
 apply List.ext_getElem
 ·simp[wL];omega
 ·intro i h1 h2
  simp only[z1j] at h1
  simp only[wL,List.getElem_map,List.getElem_range]
  rw[j6 z (Nat.mod_lt _ (by omega))]
  by_cases hi:i<z.length-a
  ·rw[List.getElem_append_left (by simp;omega),List.getElem_drop]
   congr 1
   exact Nat.mod_eq_of_lt (by omega)
  ·rw[List.getElem_append_right (by simp;omega),List.getElem_take]
   congr 1
   simp only[List.length_drop]
   rw[show a+i=(i-(z.length-a))+1*z.length by omega,Nat.add_mul_mod_self_right]
   exact Nat.mod_eq_of_lt (by omega)
theorem wL_mem{z:List Int}(h:z≠[]){a c:Nat}:∀ x∈wL z a c,x∈z:=fun x hx=>by
 unfold wL at hx
 obtain⟨j,_,rfl⟩:=List.mem_map.1 hx
 have hl:=List.length_pos_iff.2 h
 rw[j6 z (Nat.mod_lt _ hl)]
 exact List.getElem_mem _
theorem wL_eqv{X:Nat→Nat→Bool}(hs:∀ i j,X i j=X j i){z:List Int}(hn:Nz z)(h:Eqv X z []){a:Nat}(ha:a<z.length):∀ m,Eqv X (wL z a (m*z.length)) []
 |0=>by rw[Nat.zero_mul];exact Eqv.refl _
 |m+1=>by
  have hz1:Nz (z.take a):=fun t ht=>hn t (List.mem_of_mem_take ht)
  have hz2:Nz (z.drop a):=fun t ht=>hn t (List.mem_of_mem_drop ht)
  have e1:Eqv X (wL z a z.length) []:=by
   rw[wL_full ha]
   exact Eqv.rot hs hz1 hz2 (by rw[List.take_append_drop];exact h)
  have e2:=wL_eqv hs hn h ha m
  rw[Nat.succ_mul,wL_add,wL_mod]
  have e3:=e2.app hs (x:=[]) (fun _ h=>absurd h List.not_mem_nil) (wL z a z.length)
  simp only[List.nil_append] at e3
  exact e3.trans e1
theorem shF_wL{n:Int}{ps:List (List Int)}{z:List Int}(h:lstE n ps z=0){a m:Nat}(ha:a<z.length)(h60:m*z.length≤60) :
  lstE n ps (wL z a (m*z.length))=0∧(shF ps z=[]→shF ps (wL z a (m*z.length))=[]):=by
 have hne:z≠[]:=fun e=>by rw[e] at ha;simp at ha
 obtain⟨hb,hl,hx⟩:=q5x h
 have hok:=q86 h
 have hw:lstE n ps (wL z a (m*z.length))=0:=by
  unfold lstE
  rw[if_neg (by rw[hb];simp),if_neg (by rw[z1j];omega),if_pos]
  exact⟨fun x hm=>(hx x (wL_mem hne x hm)).1,fun h0=>(hx 0 (wL_mem hne 0 h0)).2 rfl⟩
 have hok2:=q86 hw
 refine⟨hw,fun h0=>?_⟩
 have e:=(z2e (q2h ps) (u:=z) (fun t ht=>(hok t ht).1) (fun t ht=>(hok t ht).2) (n:=60) (by omega)).1 h0
 exact(z2e (q2h ps) (fun t ht=>(hok2 t ht).1) (fun t ht=>(hok2 t ht).2) (n:=60) (by omega)).2 (wL_eqv (q2h ps) (fun t ht=>(hok t ht).1) e ha m)
theorem next_at{A L B P:Int}(hB:0≤B∧B<P):(A+(L+(B-(A+L) % P) % P)) % P=B:=by
 have e1:=Int.emod_add_mul_ediv (A+L) P
 have e2:=Int.emod_add_mul_ediv (B-(A+L) % P) P
 have e3:A+(L+(B-(A+L) % P) % P)=B+P*((A+L) / P-(B-(A+L) % P) / P):=by
  rw[Int.mul_sub];omega
 rw[e3,Int.add_mul_emod_self_left]
 exact Int.emod_eq_of_lt hB.1 hB.2
theorem z5b{P:Int}{l:List Pt}(hP:1≤P)(hl:okP P l){o:List Nat}(ho:∀ x∈o,x<l.length):∀ i,i<o.length→aT l (o.getD i 0)=(aT l (o.getD 0 0)+totK P l o i) % P
 |0,h=>by
  have:=okP.get hl (ho (o.getD 0 0) (by rw[j6 o h];exact List.getElem_mem h))
  rw[show totK P l o 0=0 from rfl,Int.add_zero]
  exact(Int.emod_eq_of_lt this.1.1 this.1.2).symm
 |i+1,h=>by
  have ih:=z5b hP hl ho i (by omega)
  have hB:=okP.get hl (ho (o.getD (i+1) 0) (by rw[j6 o h];exact List.getElem_mem h))
  have hn:nx1 o i=o.getD (i+1) 0:=by unfold nx1;rw[Nat.mod_eq_of_lt h]
  rw[q0t,← Int.add_assoc]
  unfold stp gp eN
  rw[hn]
  rw[← Int.emod_add_emod,← ih]
  exact(next_at ⟨hB.1.1,hB.1.2⟩).symm
end Go.Proofs.YtjfafggkkjgpeaaGreatDoor
namespace Ox
open Go Go.RowKit Go.ChangeShapes Go.WideShapes Go.ChangeAt
section
variable {H:Type}{enc:TypeId×Value→H}{P:Program}{w:World}{base:Nat}{spare:Nat→Bool}{held:Bool}
def Ty.argB:Ty→Bool
 |.int _|.bool|.nil=>true
 |.slice e=>e.argB&&decide (0<e.size)
 |.arr _ e=>e.argB
 |.cons a b=>a.argB&&b.argB
 |.ptr _=>false
theorem q6d{b off n:Nat}{spot:Option Nat}{cs:List Value}(h:w.cells? base ⟨b,off,spot⟩ n=some cs)(hn:0<n) :
  spot=none∧∃ c ty fz,w.heap[b]?=some (.cells c ty fz)∧cs=(c.toList.drop off).take n:=by
 unfold World.cells? at h
 split at h
 ·have hl:=mapM_some_length h
  have hg:=fun i (hi:i<n)=>mapM_some_get h i i (by simp[hi])
  have h0:=hg 0 hn
  rw[List.length_range] at hl
  rw[List.getElem?_eq_getElem (by omega)] at h0
  simp only[Addr.add,if_true,World.cell?] at h0
  split at h0
  ·rename_i c ty fz hb
   split at h0
   ·cases h0
   ·rename_i hs
    have hs:spot=none:=by simpa using hs
    subst hs
    refine⟨rfl,c,ty,fz,hb,?_⟩
    apply List.ext_getElem?
    intro i
    rw[List.getElem?_take]
    by_cases hi:i<n
    ·rw[if_pos hi,← hg i hi,j5,p8 hb,List.getElem?_drop]
     simp
    ·rw[if_neg hi,List.getElem?_eq_none (by omega)]
  ·cases h0
 ·cases h
def Ty.fit:(t:Ty)→t.den→Prop
 |.int k,n=>inK k n
 |.bool,_=>True
 |.slice e,l=>∀ y∈l,e.fit y
 |.ptr _,_=>True
 |.arr _ e,l=>∀ y∈l,e.fit y
 |.nil,_=>True
 |.cons a b,y=>a.fit y.1∧b.fit y.2
theorem inK_wf{k:IntKind}{n:Int}(h:(Lit.int k n).wf=true):inK k n:=by
 simp only[Lit.wf,Bool.and_eq_true,decide_eq_true_eq] at h
 cases k<;>exact h
def RepA(P:Program)(t:Ty):Prop:=∀ {H:Type} {enc:TypeId×Value→H} {w:World} {base:Nat} {spare:Nat→Bool} {held:Bool} (id:TypeId) (fuel:Nat) (cs:List Value) (x:DataW H×List MemPlace),
 TyOf P t id→t.argB=true→DataW.trod enc P w base spare held fuel id cs=some x→∃ y,Rep (fun b=>w.heap[b]?) t y cs∧t.fit y
def RepF(P:Program)(t:Ty):Prop:=∀ {H:Type} {enc:TypeId×Value→H} {w:World} {base:Nat} {spare:Nat→Bool} {held:Bool} (fs:List Field) (off fuel:Nat) (cs:List Value),
 TyOf.fields P t fs off→t.argB=true→cs.length=off+t.size→(∀ (i:Nat) (f:Field),fs[i]?=some f→∃ x,DataW.trod enc P w base spare held fuel f.type ((cs.drop f.offset).take (P.cellsOf f.type))=some x) →
  ∃ y,Rep (fun b=>w.heap[b]?) t y (cs.drop off)∧t.fit y
theorem z6b{α:Type}{n:Nat}{p:Nat→α→Prop}(h:∀ i,i<n→∃ y,p i y):∃ l:List α,l.length=n∧∀ i (hi:i<l.length),p i (l.get ⟨i,hi⟩):=by
 induction n with
 |zero=>exact⟨[],rfl,fun i hi=>absurd hi (by simp)⟩
 |succ n ih=>
  obtain⟨l,h1,h2⟩:=ih fun i hi=>h i (by omega)
  obtain⟨y,hy⟩:=h n (by omega)
  refine⟨l++[y],by simp[h1],fun i hi=>?_⟩
  simp only[List.get_eq_getElem]
  by_cases hl:i<l.length
  ·rw[List.getElem_append_left hl];exact h2 i hl
  ·have:i=l.length:=by simp at hi;omega
   subst this
   rw[List.getElem_append_right (Nat.le_refl _)]
   simp only[Nat.sub_self,List.getElem_cons_zero]
   rw[h1];exact hy
theorem rep_all(P:Program):∀ t:Ty,RepA P t∧RepF P t:=by
 intro t
 induction t with
 |int k=>
  refine⟨fun id fuel cs x ht _ h=>?_,fun fs off fuel cs hf _ _ _=>by simp[TyOf.fields] at hf⟩
  simp only[TyOf] at ht
  have hu:=ht.under
  cases fuel with
  |zero=>simp[DataW.trod] at h
  |succ n=>
   unfold DataW.trod at h
   rw[hu] at h
   split at h<;>try (simp_all;done)
   rename_i k' q n' he
   split at h
   ·rename_i hk
    injection he with he
    injection he with he
    subst he
    exact⟨n',by simp only[Rep];rw[hk.1],inK_wf hk.2⟩
   ·cases h
 |bool=>
  refine⟨fun id fuel cs x ht _ h=>?_,fun fs off fuel cs hf _ _ _=>by simp[TyOf.fields] at hf⟩
  simp only[TyOf] at ht
  have hu:=ht.under
  cases fuel with
  |zero=>simp[DataW.trod] at h
  |succ n=>
   unfold DataW.trod at h
   rw[hu] at h
   split at h<;>try (simp_all;done)
   rename_i b he
   exact⟨b,by simp only[Rep],trivial⟩
 |slice e ih=>
  refine⟨@fun H enc w base spare held id fuel cs x ht hb h=>?_,fun fs off fuel cs hf _ _ _=>by simp[TyOf.fields] at hf⟩
  simp only[TyOf] at ht
  obtain⟨eid,hi,he⟩:=ht
  simp only[Ty.argB,Bool.and_eq_true,decide_eq_true_eq] at hb
  have hsz:=q1r he
  rcases DataW.trod_slice hi.under h with⟨h0,_⟩|⟨a,len,cap,elems,rest,n,_,rfl,_,_,hlc,hcm,hel,hg,_⟩
  ·exact⟨[],by simp only[Rep];exact⟨none,0,h0,Nat.le_refl _,Nat.zero_le _,fun _=>rfl,.inl rfl⟩,fun y hy=>by cases hy⟩
  ·have each:∀ i,i<len→∃ y:e.den,∃ spot c ty fz,a=⟨a.block,a.off,spot⟩∧(spot=none∨i≠0)∧∃ _:w.heap[a.block]?=some (.cells c ty fz),Rep (fun b=>w.heap[b]?) e y ((c.toList.drop (a.off+i*e.size)).take e.size)∧e.fit y:=by
    intro i hi'
    have h1:=hg i hi'
    rw[List.getElem?_eq_getElem (by omega),Option.bind_eq_some_iff,hsz] at h1
    obtain⟨ce,h2,h3⟩:=h1
    obtain⟨blk,off,spot⟩:=a
    by_cases h0:i*e.size=0
    ·have hi0:i=0:=by
      rcases Nat.mul_eq_zero.1 h0 with h0|h0
      ·exact h0
      ·omega
     subst hi0
     simp only[Nat.zero_mul,Addr.add,if_true] at h2
     obtain⟨hs,c,ty,fz,h4,rfl⟩:=q6d h2 hb.2
     obtain⟨y,hy,hyf⟩:=ih.1 eid n _ _ he hb.1 h3
     exact⟨y,spot,c,ty,fz,rfl,.inl hs,h4,by simpa using hy,hyf⟩
    ·have e1:(Addr.add ⟨blk,off,spot⟩ (i*e.size))=⟨blk,off+i*e.size,none⟩:=by simp only[Addr.add,if_neg h0]
     rw[e1] at h2
     obtain⟨hs,c,ty,fz,h4,rfl⟩:=q6d h2 hb.2
     obtain⟨y,hy,hyf⟩:=ih.1 eid n _ _ he hb.1 h3
     exact⟨y,spot,c,ty,fz,rfl,.inr (fun hi0=>h0 (by rw[hi0,Nat.zero_mul])),h4,hy,hyf⟩
   by_cases hl0:len=0
   ·subst hl0
    exact⟨[],by simp only[Rep];exact⟨some a,cap,rfl,Nat.zero_le _,hcm,(fun h=>by cases h),.inl rfl⟩,fun y hy=>by cases hy⟩
   ·obtain⟨y0,spot,c,ty,fz,ha,hs,hc,_⟩:=each 0 (by omega)
    have hs:spot=none:=hs.resolve_right (fun h=>h rfl)
    subst hs
    obtain⟨l,hl,hr⟩:=z6b (p:=fun i (y:e.den)=>Rep (fun b=>w.heap[b]?) e y ((c.toList.drop (a.off+i*e.size)).take e.size)∧e.fit y) (n:=len) (fun i hi'=>by
     obtain⟨y,_,c',ty',fz',_,_,hc',hy⟩:=each i hi'
     rw[hc] at hc'
     injection hc' with hc'
     injection hc' with hc' _ _
     subst hc'
     exact⟨y,hy⟩)
    refine⟨l,?_,fun y hy=>by
     obtain⟨i,hi,rfl⟩:=List.mem_iff_get.1 hy
     exact(hr i.1 i.2).2⟩
    simp only[Rep]
    refine⟨some a,cap,by rw[hl],by rw[hl];exact hlc,hcm,(fun h=>by cases h),.inr ⟨a.block,a.off,c,ty,fz,by rw[ha],hc,fun i hi=>(hr i hi).1⟩⟩
 |ptr e ih=>exact⟨fun id fuel cs x _ hb _=>by simp[Ty.argB] at hb,fun fs off fuel cs hf _ _ _=>by simp[TyOf.fields] at hf⟩
 |arr n e ih=>
  refine⟨@fun H enc w base spare held id fuel cs x ht hb h=>?_,fun fs off fuel cs hf _ _ _=>by simp[TyOf.fields] at hf⟩
  simp only[TyOf] at ht
  obtain⟨eid,hi,he⟩:=ht
  simp only[Ty.argB] at hb
  have hsz:=q1r he
  have hsa:P.cellsOf id=n*e.size:=q1r (t:=.arr n e) ⟨eid,hi,he⟩
  obtain⟨xs,m,_,_,hl,hxl,hg⟩:=DataW.trod_array hi.under h
  obtain⟨l,h1,h2⟩:=z6b (p:=fun i (y:e.den)=>Rep (fun b=>w.heap[b]?) e y ((cs.drop (i*e.size)).take e.size)∧e.fit y) (n:=n) (fun i hi'=>by
   have h3:=hg i hi'
   rw[hsz,List.getElem?_eq_getElem (by omega)] at h3
   exact ih.1 eid m _ _ he hb h3)
  exact⟨l,by simp only[Rep];exact⟨h1,by rw[hl,hsa],fun i hi=>(h2 i hi).1⟩,fun y hy=>by
   obtain⟨i,hi,rfl⟩:=List.mem_iff_get.1 hy
   exact(h2 i.1 i.2).2⟩
 |nil=>
  refine⟨fun id fuel cs x ht _ _=>by simp[TyOf] at ht,fun fs off fuel cs hf _ hl _=>⟨(),?_,trivial⟩⟩
  simp only[Rep,Ty.size] at hl ⊢
  exact List.drop_of_length_le (by omega)
 |cons a b iha ihb=>
  have hF:RepF P (.cons a b):=by
   intro H enc w base spare held fs off fuel cs hf hb hl hg
   cases fs with
   |nil=>simp[TyOf.fields] at hf
   |cons f r=>
    simp only[TyOf.fields] at hf
    obtain⟨h1,h2,h3,h4⟩:=hf
    simp only[Ty.argB,Bool.and_eq_true] at hb
    simp only[Ty.size] at hl
    obtain⟨x,hx⟩:=hg 0 f rfl
    rw[h1,q1r h2] at hx
    obtain⟨y1,hy1,hf1⟩:=iha.1 _ _ _ _ h2 hb.1 hx
    obtain⟨y2,hy2,hf2⟩:=ihb.2 r (off+a.size) fuel cs h4 hb.2 (by omega) fun i f hf=>hg (i+1) f (by simpa using hf)
    refine⟨(y1,y2),?_,hf1,hf2⟩
    simp only[Rep]
    refine⟨_,_,?_,hy1,hy2⟩
    rw[← List.drop_drop,List.take_append_drop]
  refine⟨@fun H enc w base spare held id fuel cs x ht hb h=>?_,hF⟩
  have hct:=q1r ht
  simp only[TyOf] at ht
  obtain⟨fs,hi,hm⟩:=ht
  obtain⟨xs,n,_,_,hl,hxl,hg⟩:=DataW.trod_struct hi.under h
  have hff:TyOf.fields P (.cons a b) fs.toList 0:=by
   split at hm
   ·rename_i f r hfr
    rw[hfr]
    simp only[TyOf.fields]
    simpa using hm
   ·exact hm.elim
  have:=hF fs.toList 0 n cs hff hb (by rw[hl,hct];omega) (held:=held) (enc:=enc) (w:=w) (base:=base) (spare:=spare) fun i f hf=>by
   have h1:=hg i f (by simpa using hf)
   have hlt:i<xs.length:=by
    rw[hxl]
    have:=(List.getElem?_eq_some_iff.1 hf).1
    simpa using this
   rw[List.getElem?_eq_getElem hlt] at h1
   exact⟨_,h1⟩
  simpa using this
def Dat:List Ty→Type
 |[]=>Unit
 |t::ts=>t.den×Dat ts
def Dat.av:{ts:List Ty}→Dat ts→AV
 |[],_=>.anil
 |t::_,x=>.acons (.val t x.1) (Dat.av x.2)
def Dat.fit:{ts:List Ty}→Dat ts→Prop
 |[],_=>True
 |t::_,x=>t.fit x.1∧Dat.fit x.2
def tysB(P:Program):List Ty→List TypeId→Bool
 |[],[]=>true
 |t::ts,i::is=>(tyB P t i&&t.argB)&&(P.readableRec i&&decide (i<P.types.size))&&tysB P ts is
 |_,_=>false
theorem agg_of{t:Ty}{id:TypeId}(ht:TyOf P t id)(hb:t.argB=true):(t.agg=true∧((∃ fs,P.underlying id=some (.struct fs))∨∃ n e,P.underlying id=some (.array n e))) ∨
  (t.agg=false∧((∃ k,P.underlying id=some (.int k))∨P.underlying id=some .bool∨∃ e,P.underlying id=some (.slice e))):=by
 cases t with
 |int k=>simp only[TyOf] at ht;exact .inr ⟨rfl,.inl ⟨k,ht.under⟩⟩
 |bool=>simp only[TyOf] at ht;exact .inr ⟨rfl,.inr (.inl ht.under)⟩
 |slice e=>simp only[TyOf] at ht;obtain⟨eid,h,_⟩:=ht;exact .inr ⟨rfl,.inr (.inr ⟨eid,h.under⟩)⟩
 |ptr e=>simp[Ty.argB] at hb
 |arr n e=>simp only[TyOf] at ht;obtain⟨eid,h,_⟩:=ht;exact .inl ⟨rfl,.inr ⟨n,eid,h.under⟩⟩
 |nil=>simp[TyOf] at ht
 |cons a b=>simp only[TyOf] at ht;obtain⟨fs,h,_⟩:=ht;exact .inl ⟨rfl,.inl ⟨fs,h.under⟩⟩
theorem arg_rv{ρ:Env}{t:Ty}{id:TypeId}{v:Value}{d:DataW H}{ps:List MemPlace}(ht:TyOf P t id)(hb:t.argB=true)(hv:Value.okWide P w .any base id v){b0:Nat}
  (h:DataW.Trod enc P w b0 spare held id v d ps):∃ y,(AV.val t y).rv (fun b=>w.heap[b]?) ρ v∧t.fit y:=by
 obtain⟨fuel,h⟩:=h
 obtain⟨y,hy,hyf⟩:=(rep_all P t).1 id fuel _ _ ht hb h
 refine⟨y,?_,hyf⟩
 simp only[AV.rv]
 refine⟨_,hy,?_⟩
 unfold Value.okWide at hv
 rcases agg_of ht hb with⟨hag,hu⟩|⟨hag,hu⟩
 ·have:∃ cs,v=.agg cs:=by
   rcases hu with⟨fs,hu⟩|⟨n,e,hu⟩<;>· rw[hu] at hv;obtain⟨cs,h1,_⟩:=hv;exact⟨cs,h1⟩
  obtain⟨cs,rfl⟩:=this
  rw[y8 hag]
  simp[Value.cells]
 ·have hone:v.oneCell'=true:=by
   rcases hu with⟨k,hu⟩|hu|⟨e,hu⟩<;>rw[hu] at hv<;>simp only[Cell.okWide,hu,Cell.ok] at hv<;>(split at hv<;>first|rfl|(exact hv.elim)|(split at hv<;>first|rfl|exact hv.elim))
  rw[q0y hone]
  simp[Ty.wrap,hag]
theorem q5l{t:Ty}{ts:List Ty}{i:TypeId}{is:List TypeId}(h:tysB P (t::ts) (i::is)=true):TyOf P t i∧t.argB=true∧P.readableRec i=true∧i<P.types.size∧tysB P ts is=true:=by
 simp only[tysB,Bool.and_eq_true,decide_eq_true_eq] at h
 exact⟨q0f h.1.1.1,h.1.1.2,h.1.2.1,h.1.2.2,h.2⟩
theorem z7z{ρ:Env}{b0:Nat}:∀ {ts:List Ty} {is:List TypeId} {vs:List Value} {ds:List (DataW H)} {ps:List MemPlace},tysB P ts is=true→(∀ (j:Nat) t v,is[j]?=some t→vs[j]?=some v→Value.okWide P w .any base t v) →
  DataW.TrodAll enc P w b0 spare held is vs ds ps→∃ ys:Dat ts,ys.av.rvs (fun b=>w.heap[b]?) ρ vs∧ys.fit
 |[],[],vs,ds,ps,_,_,h=>by
  cases vs with
  |nil=>exact⟨(),by simp only[Dat.av,AV.rvs],trivial⟩
  |cons v vs=>cases ds<;>simp[DataW.TrodAll] at h
 |t::ts,i::is,vs,ds,ps,hb,hv,h=>by
  obtain⟨h1,h2,_,_,h5⟩:=q5l hb
  cases vs with
  |nil=>cases ds<;>simp[DataW.TrodAll] at h
  |cons v vs=>
   cases ds with
   |nil=>simp[DataW.TrodAll] at h
   |cons d ds=>
    obtain⟨p,q,h6,h7,_⟩:=h
    obtain⟨y,hy,hyf⟩:=arg_rv (ρ:=ρ) h1 h2 (hv 0 i v rfl rfl) h6
    obtain⟨ys,hys,hysf⟩:=z7z (ρ:=ρ) h5 (fun j t v hj hjv=>hv (j+1) t v (by simpa using hj) (by simpa using hjv)) h7
    exact⟨(y,ys),by simp only[Dat.av,AV.rvs];exact⟨v,vs,hy,hys,rfl⟩,hyf,hysf⟩
 |[],_::_,_,_,_,hb,_,_=>by simp[tysB] at hb
 |_::_,[],_,_,_,hb,_,_=>by simp[tysB] at hb
theorem Dat.bd:∀ {ts:List Ty} (ys:Dat ts) (n:Nat),ys.av.bd n
 |[],_,_=>trivial
 |_::_,x,n=>⟨trivial,Dat.bd x.2 n⟩
theorem q7b{W W':World}(hl:laidOutB P=true)(hbl:Below W.heap.size W W'){sp:Nat→Bool}:∀ {ts:List Ty} {is:List TypeId} {vs:List Value} {ds:List (DataW H)} {ps:List MemPlace},tysB P ts is=true →
  DataW.TrodAll enc P W 0 (fun _=>true) true is vs ds ps→(∀ p∈ps,p.block<W.heap.size)→(∀ p∈ps,sp p.block=true)→DataW.TrodAll enc P W' 0 sp true is vs ds ps
 |[],[],vs,ds,ps,_,h,_,_=>by
  cases vs<;>cases ds<;>simp_all[DataW.TrodAll]
 |t::ts,i::is,vs,ds,ps,hb,h,hlt,hsp=>by
  obtain⟨_,_,h3,h4,h5⟩:=q5l hb
  cases vs with
  |nil=>cases ds<;>simp[DataW.TrodAll] at h
  |cons v vs=>
   cases ds with
   |nil=>simp[DataW.TrodAll] at h
   |cons d ds=>
    obtain⟨p,q,h6,h7,rfl⟩:=h
    refine⟨p,q,WideElems.Trod_stays hl h3 h4 h6 (fun x hx=>hbl.same (hlt x (List.mem_append_left _ hx))) (fun x hx=>hsp x (List.mem_append_left _ hx)),?_,rfl⟩
    exact q7b hl hbl h5 h7 (fun x hx=>hlt x (List.mem_append_right _ hx)) (fun x hx=>hsp x (List.mem_append_right _ hx))
 |[],_::_,_,_,_,hb,_,_,_=>by simp[tysB] at hb
 |_::_,[],_,_,_,hb,_,_,_=>by simp[tysB] at hb
theorem law_callsL{Z:Mem→Prop}{f:FuncId}{fn:Func}{s:ChangeSpec}{ts:List Ty}{W:World}{base:Nat}{args:Array Value}{ds gs:List (DataW H)}{before:List MemPlace}{fresh handsOn:Bool}
  (hz:Z (fun b=>W.heap[b]?)) (hfn:∀ ys:Dat ts,ys.fit→FnL Z P f ys.av (·=.val .bool true)) (hts:tysB P ts fn.params.toList=true) (hl:laidOutB P=true) (hvars:s.vars=[])
  (hspec:∀ ds:List (DataW H),ds.length=ts.length→(s.fn H ds).results=[.lit (.bool true)]∧(s.fn H ds).args=ds∧(s.fn H ds).vars=[]) {rt:TypeId} (hres:fn.resultTypes=#[rt]) (hrt:P.underlying rt=some .bool)
  (hval:∀ (j:Nat) t v,fn.params[j]?=some t→args[j]?=some v→Value.okWide P W .any base t v) (hW:DataW.Whole enc P fn.params.toList s.vars false W args.toList ds gs before) :
  Calls P f args W fun e W'=>∃ v,e=.returned v∧s.post enc P fn false fresh handsOn false W args v W':=by
 have hW':=hW
 obtain⟨p,q,hA,hV,rfl,hfz,_⟩:=hW
 rw[hvars] at hV
 obtain⟨rfl,rfl⟩:=trodVars_none hV
 rw[List.append_nil] at hW'
 obtain⟨ys,hys,hysf⟩:=z7z (ρ:=⟨fun _=>0,fun _=>.nil,fun _=>Go.undef⟩) hts (fun j t v hj hv=>hval j t v (by simpa using hj) (by simpa using hv)) hA
 have hlen:∀ {ts:List Ty} {is:List TypeId} {vs:List Value} {ds:List (DataW H)} {ps:List MemPlace},tysB P ts is=true→DataW.TrodAll enc P W 0 (fun _=>true) true is vs ds ps→ds.length=ts.length:=by
  intro ts
  induction ts with
  |nil=>intro is vs ds ps hb h;cases is<;>cases vs<;>cases ds<;>simp_all[DataW.TrodAll,tysB]
  |cons t ts ih=>
   intro is vs ds ps hb h
   cases is with
   |nil=>simp[tysB] at hb
   |cons i is=>
    cases vs<;>cases ds<;>try (simp[DataW.TrodAll] at h;done)
    obtain⟨p,q,_,h7,_⟩:=h
    simp[ih (q5l hb).2.2.2.2 h7]
 have hdl:=hlen hts hA
 have hrun:=(hfn ys hysf).run (fun b=>W.heap[b]?) ⟨fun _=>0,fun _=>.nil,fun _=>Go.undef⟩ W args.toList hz (fun _ _ h=>h) hys (Dat.bd ys 0)
 rw[Array.toArray_toList] at hrun
 refine hrun.mono fun e W'=>?_
 rintro⟨v,r,M',rfl,rfl,_,hrv,hbl,_⟩
 rw[m6] at hrv
 subst hrv
 obtain⟨hs1,hs2,hs3⟩:=hspec ds hdl
 have hlt:=fun x hx=>hW'.lt x hx
 refine⟨_,rfl,ds,[],p,[],p,[],hW',?_,?_,?_,World.keptBut_mono (fun x hx=>⟨hx,.inr (.inl hx)⟩) (hbl.frame (·∈p)),fun h=>by cases h⟩
 ·rw[List.append_nil,hs1,hres]
  exact trodAll_cons_mk (shut_bool hrt _) trodAll_mk0
 ·rw[List.append_nil,hs2]
  exact q7b hl hbl hts hA hlt fun x hx=>by simpa using hlt x hx
 ·rw[List.append_nil,hs3,hvars]
  rfl
end
end Ox
namespace Ox
open Go Go.RowKit
noncomputable section
theorem laid_one{P:Program}{w:World}{name:String}{k:IntKind}{xs:List Int}{g:Nat}{t e:TypeId}(hg:P.globalNamed name=some g)(ht:(P.globals[g]?).map (·.type)=some t)(hu:P.underlying t=some (.array xs.length e))(he:P.underlying e=some (.int k))(hc:P.cellsOf e=1) :
  ∀ {laid:List (String×DataW Unit)} {ps:List MemPlace},DataW.LaidVars P w laid ps→(name,DataW.agg (xs.map fun z=>DataW.lit (.int k z)))∈laid →
  ∃ (cs:Array Value) (ty:TypeId) (fz:Nat×Nat),w.heap[g]?=some (.cells cs ty fz)∧xs.length≤cs.size∧∀ i,i<xs.length→cs[i]?=some (.int k (xs.getD i 0))
 |[],_,_,hm=>absurd hm List.not_mem_nil
 |(n,d)::r,ps,h,hm=>by
  obtain⟨g',t',cs,fuel,p,q,h1,h2,h3,h4,h5,_⟩:=h
  rcases List.mem_cons.1 hm with hm|hm
  ·injection hm with e1 e2
   subst e1;subst e2
   obtain rfl:=Option.some.inj (hg.symm.trans h1)
   obtain rfl:=Option.some.inj (ht.symm.trans h2)
   obtain⟨ys,m,_,hx,hl,hyl,hcell⟩:=DataW.trod_array hu h4
   have hy:ys.map (·.1)=xs.map fun z=>DataW.lit (.int k z):=by
    injection hx with hx _
    injection hx with hx
    exact hx.symm
   have hblk:∃ ty fz,w.heap[g]?=some (.cells cs ty fz):=by
    unfold World.var? at h3
    rw[hg] at h3
    simp only[Option.bind_some] at h3
    split at h3
    ·rename_i cs' ty fz hh
     injection h3 with h3
     exact⟨ty,fz,by rw[hh,h3]⟩
    ·cases h3
   obtain⟨ty,fz,hh⟩:=hblk
   have key:∀ i,i<xs.length→cs[i]?=some (.int k (xs.getD i 0)):=fun i hi=>by
    have h6:=hcell i hi
    rw[hc,Nat.mul_one] at h6
    have hi':i<ys.length:=by rw[hyl];exact hi
    rw[List.getElem?_eq_getElem hi'] at h6
    obtain⟨z,h7,h8,_⟩:=DataW.trod_int he h6
    have h9:(ys[i]).1=DataW.lit (.int k (xs.getD i 0)):=by
     have:=congrArg (fun l=>l[i]?) hy
     simp only[List.getElem?_map,List.getElem?_eq_getElem hi',List.getElem?_eq_getElem hi,Option.map_some,Option.some.injEq] at this
     rw[this,List.getD_eq_getElem?_getD,List.getElem?_eq_getElem hi];rfl
    rw[h8] at h9
    injection h9 with h9
    injection h9 with _ h9
    subst h9
    have hlt:i<cs.toList.length:=by
     refine Nat.lt_of_not_le fun hc'=>?_
     rw[List.drop_of_length_le hc'] at h7
     cases h7
    rw[List.drop_eq_getElem_cons hlt] at h7
    injection h7 with h7 _
    rw[← Array.getElem?_toList,List.getElem?_eq_getElem hlt,h7]
   refine⟨cs,ty,fz,hh,?_,key⟩
   refine Nat.le_of_not_lt fun hc'=>?_
   have:=key cs.size hc'
   simp at this
  ·exact laid_one hg ht hu he hc h5 hm
end
end Ox
namespace Ox
open Go Go.RowKit Ox.Rn
variable {X:Ctx}{M:Mem}{ρ:Env}{a:Act}{w w':World}{QA:Exit→S→Prop}{all l:List Oper}{L:List (Nat×AV)}{H:List (Nat×HO)}{nx d:Nat}{ty:TypeId}{ps:String}{af:Array Edge}{s:S}{o:Oper}{md:Bool}
theorem Laid_of{gs:List Gt}{M N:Mem}(h:Laid gs M)(k:∀ b o,M b=some o→N b=some o):Laid gs N:=fun q hq=>by
 obtain⟨cs,ty,fz,e1,e2⟩:=h q hq
 exact⟨cs,ty,fz,k _ _ e1,e2⟩
theorem q9u{gs:List Gt}{cs:List Prop}{f:FuncId}{r:AV}(h:callA X.T o.op s=some (cs,f,.anil))(hf:FnZ (Laid gs) X.P f r.toV)(hz:Laid gs X.M0)(hc:allP cs)(h1:SAT X M ρ s w)(h2:REG X M ρ s a){w1:World}(hw:Below w.heap.size w w1) :
  ∃ az,(execOp a.eval o).run X.P w1=.ok (.enter f az) w1∧Calls X.P f az w1 (fun e w'=>e=.returned r.toV∧Below w.heap.size w w'):=by
 obtain⟨hb,vs,hvs,hrun⟩:=q25 h1 (z1s h1) h2 h hc
 simp only[AV.rvs] at hvs
 subst hvs
 refine⟨#[],by rw[hrun,hf.call],(hf.run _ w1 (Laid_of hz fun b o e=>h1.mem b o (h1.msub b o e)) (z1r hw)).mono ?_⟩
 rintro e w' ⟨rfl,hbl⟩
 exact⟨rfl,hw.trans (hbl.mono hw.size)⟩
theorem JL.callZ{gs:List Gt}{cs:List Prop}{f:FuncId}{r:AV}(hg:o.guard=none)(h:callA X.T o.op s=some (cs,f,.anil))(hf:FnZ (Laid gs) X.P f r.toV)(hz:Laid gs X.M0)(hr:r.scal=true)(hrb:r.bd 0)(hd:dstOk X.n o.dst)(hc:allP cs)
  (k:JL X true all QA l (putS o.dst r s)):JL X true all QA (o::l) s:=by
 intro M ρ a w h1 h2
 obtain⟨az,e1,e2⟩:=q9u h hf hz hc h1 h2 (Below.refl w.heap.size w)
 refine w4 (v7 hg) (t7 (q3s h) e1 e2 ?_)
 rintro e w' ⟨rfl,hbl⟩
 exact⟨_,rfl,k M ρ _ w' (k7 (h1.later hbl)) (h2.putO hd.spec (k0 (Nat.zero_le _) hrb) ((m5 hr).2 rfl))⟩
theorem z8e{gs:List Gt}{cs:List Prop}{f:FuncId}{r:AV}{g:Bool}(hg:gOf all s.L o.guard=some g)(hgt:g=true)(h:callA X.T o.op s=some (cs,f,.anil))(hf:FnZ (Laid gs) X.P f r.toV)(hz:Laid gs X.M0)(hr:r.scal=true)(hrb:r.bd 0)(hd:dstOk X.n o.dst)(hc:allP cs)
  (k:JL X true all QA l (putS o.dst r s)):JL X true all QA (o::l) s:=by
 subst hgt
 intro M ρ a w h1 h2
 have hw:=s7 hg h2
 obtain⟨az,e1,e2⟩:=q9u h hf hz hc h1 h2 (Below.refl w.heap.size w)
 refine w4 hw (t7 (q3s h) e1 e2 ?_)
 rintro e w' ⟨rfl,hbl⟩
 exact⟨_,rfl,k M ρ _ w' (k7 (h1.later hbl)) (h2.putO hd.spec (k0 (Nat.zero_le _) hrb) ((m5 hr).2 rfl))⟩
variable {op:Op}
theorem q33{fr:List Fr}{gs:List Gt}{cs:List Prop}{f:FuncId}{b:Bool}(h:callA X.T op ⟨L,H,nx⟩=some (cs,f,.anil))(hf:FnZ (Laid gs) X.P f (.bool b))(hz:Laid gs X.M0)(hd:ltB d X.n=true)(hc:allP cs)
  (k:JK X (.ops true all l::fr) QA ⟨(d,(.val .bool b))::L,H,nx⟩):JK X (.ops true all (⟨some d,op,ty,ps,af,none⟩::l)::fr) QA ⟨L,H,nx⟩:=
 JL.callZ (r:=(.val .bool b)) rfl h hf hz rfl trivial (g7 hd) hc k
theorem q32{fr:List Fr}{gs:List Gt}{cs:List Prop}{f:FuncId}{b:Bool}{g:Bool}{gg:Nat×Bool}(hg:gOf all L (some gg)=some g)(hgt:g=true)(h:callA X.T op ⟨L,H,nx⟩=some (cs,f,.anil))(hf:FnZ (Laid gs) X.P f (.bool b))(hz:Laid gs X.M0)(hd:ltB d X.n=true)(hc:allP cs)
  (k:JK X (.ops true all l::fr) QA ⟨(d,(.val .bool b))::L,H,nx⟩):JK X (.ops true all (⟨some d,op,ty,ps,af,some gg⟩::l)::fr) QA ⟨L,H,nx⟩:=
 z8e (r:=(.val .bool b)) (s:=⟨L,H,nx⟩) hg hgt h hf hz rfl trivial (g7 hd) hc k
end Ox
namespace Ox
open Go Go.RowKit Ox.Rn
theorem z80{Z:Mem→Prop}{P:Program}{f:FuncId}{r:AV}(hr:r.scal=true)(h:FnL Z P f .anil (·=r)):FnZ Z P f r.toV where
 call:=h.call
 run:=fun M w hz hM=>by
  let ρ:Env:=⟨fun _=>0,fun _=>.bool,fun _=>Go.undef⟩
  refine(h.run M ρ w [] hz hM (by simp only[AV.rvs]) trivial).mono ?_
  rintro e w' ⟨v,r',M',rfl,rfl,_,hv,hbl,_⟩
  exact⟨by rw[(m5 hr).1 hv],hbl⟩
end Ox
namespace Go.Proofs.YtjfafggkkjgpeaaGreatDoor
open Go Go.RowKit Ox Ox.Se Ox.St
attribute [local irreducible] JC JL JK JW
variable {gs:List Rn.Gt}
set_option maxHeartbeats 4000000 in
theorem fn3(h7:FnZ (Rn.Laid gs) Tryz.prog 7 (.bool true))(n:Int)(ps:List (List Int))(z:List Int)(P:Int)(l:List Pt)(u:List Int)(hu:∀ x∈u,0≤x∧x≤255) :
  FnL (Rn.Laid gs) Tryz.prog 3 (.acons (vBe n ps) (.acons (vL z) (.acons (vS P l) (.acons (vU u) .anil)))) (·=vB true):=by
 refine Ox.FnL.intro xok Tryz.func3 rfl Tryz.call3 (Nat.le_of_ble_eq_true rfl) (fun E M0 up hz=>?_)
 refine j4 ?_
 refine JK.lenOf 1 rfl fun hlen=>?_
 replace hlen:z.length≤9223372036854775807:=hlen.1
 refine JK.lenOf 3 rfl fun hlen2=>?_
 replace hlen2:u.length≤9223372036854775807:=hlen2.1
 have c5:=fn5 n ps z
 have c6:=fn6 P l
 (repeat (first|refine zs rfl ?_|refine zg rfl rfl rfl ?_|refine zd ?_|refine q9 ?_|refine q8 ?_|refine zc rfl (c5) rfl rfl ?_|refine ze rfl (c5) rfl ?_|refine zk rfl rfl (fun _=>c5) rfl rfl ?_|refine zc rfl (c6) rfl rfl ?_|refine ze rfl (c6) rfl ?_|refine zk rfl rfl (fun _=>c6) rfl rfl ?_))
 refine z8 rfl (fun hc=>?_) (fun hc=>?_)
 ·(repeat (first|refine zs rfl ?_|refine zg rfl rfl rfl ?_|refine zd ?_|refine q9 ?_|refine q8 ?_))
  refine q33 rfl h7 hz rfl trivial ?_
  (repeat (first|refine zs rfl ?_|refine zg rfl rfl rfl ?_|refine zd ?_|refine q9 ?_|refine q8 ?_))
  refine⟨.inl rfl,_,_,rfl,trivial,?_⟩
  rfl
 have hcc:((ps.length≤40∧z.length≤60)∧lstE n ps z=0)∧1≤z.length∧z.length≤12∧l.length≤15∧u.length≤30∧seE P l=0∧P=z.length:=by
  by_cases h1:(ps.length≤40∧z.length≤60)∧lstE n ps z=0
  ·by_cases h2:(z.length:Int)<1
   ·simp[h1,h2] at hc
   ·by_cases h3:(12:Int)<z.length
    ·simp[h1,h2,h3] at hc
    ·by_cases h4:(15:Int)<l.length
     ·simp[h1,h2,h3,h4] at hc
     ·by_cases h5:(30:Int)<u.length
      ·simp[h1,h2,h3,h4,h5] at hc
      ·by_cases h6:seE P l=0
       ·simp[h1,h2,h3,h4,h5,h6] at hc
        exact⟨h1,by omega,by omega,by omega,by omega,h6,by omega⟩
       ·simp[h1,h2,h3,h4,h5,h6] at hc
  ·rw[decide_eq_false h1] at hc
   simp at hc
 obtain⟨⟨⟨hp40,hz60⟩,hlst⟩,hz1,hz12,hl15,hu30,hse,hPz⟩:=hcc
 clear hc c5 c6
 obtain⟨hP,hl1,hl8,hok⟩:=q7o.1 hse
 have c8:=fn8 P l u (by omega) hu (by omega)
 have hperm:=q5s u l.length
 have holen:=z1x u l.length
 generalize ordR u l.length=o at c8 hperm holen
 have hord:ordE P l (iL o)=0:=q4d.2 ⟨hse,by
  refine⟨by simp[holen],fun x hx=>?_,?_⟩
  ·obtain⟨k,hk,rfl⟩:=List.mem_map.1 hx
   have:=List.mem_range.1 (hperm.mem_iff.1 hk)
   omega
  ·exact List.pairwise_map.2 ((hperm.nodup_iff.2 List.nodup_range).imp fun h e=>h (by omega))⟩
 obtain⟨q1,q2,q3,q4,q5,q6,q7⟩:=rd_of hord
 rw[nat_iL] at q1 q2 q4 q5 q6 q7
 have c9:=fn9 P l (iL o)
 have c10:=fn10 P l (iL o)
 have hws:wasI P l (iL o)=wasL P l o o.length:=by unfold wasI;rw[if_pos hord,nat_iL]
 rw[hord] at c9 c10
 rw[hws] at c10
 have htot:totK P l o o.length=P*rdI P l (iL o):=by
  rw[q4]
  cases o with
  |nil=>exact absurd rfl q5
  |cons h t=>rw[z1l,tot_rd hP.1 hperm,Int.mul_ediv_cancel_left _ (by omega)]
 have hstp:∀ i,i<o.length→(0≤gp P l (o.getD i 0) (nx1 o i)∧gp P l (o.getD i 0) (nx1 o i)<P)∧(0≤aT l (o.getD i 0)∧aT l (o.getD i 0)<P)∧1≤lO l (o.getD i 0)∧lO l (o.getD i 0)≤10000:=fun i hi=>by
  have hB:=okP.get hok (q1 (o.getD i 0) (by rw[j6 o hi];exact List.getElem_mem hi))
  exact⟨z6n (by omega) _ _,hB.1,hB.2⟩
 have hmono:∀ k,k≤o.length→∀ j,j≤k→totK P l o j+(k-j:Nat)≤totK P l o k:=by
  intro k
  induction k with
  |zero=>intro _ j hj;rw[show j=0 by omega];simp
  |succ k ih=>
   intro hk j hj
   have h1:=hstp k (by omega)
   rcases Nat.lt_or_ge k j with h|h
   ·rw[show j=k+1 by omega];simp
   ·have h2:=ih (by omega) j h
    rw[q0t]
    unfold stp
    omega
 have hT0:totK P l o 0=0:=rfl
 have hrd1:1≤rdI P l (iL o):=by
  have h1:=hmono o.length (Nat.le_refl _) 0 (Nat.zero_le _)
  rw[hT0,htot] at h1
  have h3:0<o.length:=List.length_pos_iff.2 q5
  refine Int.not_lt.1 fun h=>?_
  have:P*rdI P l (iL o)≤P*0:=Int.mul_le_mul_of_nonneg_left (by omega) (by omega)
  omega
 have hpart:=fun i hi=>z5b hP.1 hok q1 i hi
 generalize rdI P l (iL o)=r at c9 htot hrd1
 have hxlen:(iL o).length=o.length:=by simp
 have hxget:∀ i,i<o.length→(iL o).getD i 0=(o.getD i 0:Nat):=fun i hi=>by
  rw[j6 _ (by rw[hxlen];exact hi),j6 o hi];simp
 have hwlen:=z1i P l o o.length
 have hwget:∀ i,i<o.length→(wasL P l o o.length).getD i 0=gp P l (o.getD i 0) (nx1 o i):=fun i hi=>by
  rw[j6 _ (by rw[hwlen];exact hi)];simp[wasL]
 generalize wasL P l o o.length=ws at c10 hwlen hwget
 generalize iL o=xs at c8 c9 c10 hxlen hxget
 (repeat (first|refine zs rfl ?_|refine zg rfl rfl rfl ?_|refine zd ?_|refine q9 ?_|refine q8 ?_|refine zc rfl (c8) rfl rfl ?_|refine ze rfl (c8) rfl ?_|refine zk rfl rfl (fun _=>c8) rfl rfl ?_|refine zc rfl (c9) rfl rfl ?_|refine ze rfl (c9) rfl ?_|refine zk rfl rfl (fun _=>c9) rfl rfl ?_|refine zc rfl (c10) rfl rfl ?_|refine ze rfl (c10) rfl ?_|refine zk rfl rfl (fun _=>c10) rfl rfl ?_))
 refine z8 rfl (fun h=>absurd h ?_) (fun _=>?_)
 ·have h2:¬ r<1:=by omega
  simp[h2,hwlen,hxlen]
 have htb:0≤r*P∧r*P≤100000:=by
  have h2:∀ k,k≤o.length→totK P l o k≤11000*k:=fun k=>by
   induction k with
   |zero=>intro _;rw[hT0];simp
   |succ k ih=>
    intro hk
    have h3:=hstp k (by omega)
    have h4:=ih (by omega)
    rw[q0t]
    unfold stp
    omega
  have h3:=h2 o.length (Nat.le_refl _)
  have h4:=hmono o.length (Nat.le_refl _) 0 (Nat.zero_le _)
  rw[hT0] at h4
  rw[Int.mul_comm,← htot]
  omega
 (repeat (first|refine zs rfl ?_|refine zg rfl rfl rfl ?_|refine zd ?_|refine q9 ?_|refine q8 ?_))
 refine z8 rfl (fun hc=>?_) (fun hc=>?_)
 ·(repeat (first|refine zs rfl ?_|refine zg rfl rfl rfl ?_|refine zd ?_|refine q9 ?_|refine q8 ?_))
  refine q33 rfl h7 hz rfl trivial ?_
  (repeat (first|refine zs rfl ?_|refine zg rfl rfl rfl ?_|refine zd ?_|refine q9 ?_|refine q8 ?_))
  refine⟨.inl rfl,_,_,rfl,trivial,?_⟩
  rfl
 have hr60:r*P≤60:=by simpa using hc
 clear hc
 (repeat (first|refine zs rfl ?_|refine zg rfl rfl rfl ?_|refine zd ?_|refine q9 ?_|refine q8 ?_))
 refine JK.ghost 14 3 (.int .i64) rfl ?_
 refine JK.ghost 15 3 (.int .i64) rfl ?_
 obtain⟨a0,ha0⟩:∃ a0:Nat,aT l (o.getD 0 0)=(a0:Int):=⟨(aT l (o.getD 0 0)).toNat,by
  have:=(hstp 0 (List.length_pos_iff.2 q5)).2.1;omega⟩
 have ha0z:a0<z.length:=by
  have:=(hstp 0 (List.length_pos_iff.2 q5)).2.1;omega
 refine JK.loop (fun i:Nat=>⟨[(1,vL z),(4,.lf (.optr 0 [])),(6,.lf (.optr 1 [])),(9,vL xs),(10,vI r),(12,vL ws),(14,.lf (.osl 2)),(15,.lf (.osl 3)),(16,vI (i:Int))],
  [(0,.cell beT (vBe n ps)),(1,.cell seT (vS P l)),(2,.sl 3 (.int .i64) (wL z a0 (totK P l o i).toNat)),(3,.sl 3 (.int .i64) [])],4⟩) (fun i=>i≤o.length) (fun i=>o.length-i) 0 (Nat.zero_le _) (by(exact z7 (by conv=>lhs;reduce))) fun i hi=>?_
 have hTi:=hmono i hi 0 (Nat.zero_le _)
 rw[hT0] at hTi
 have hTl:=hmono o.length (Nat.le_refl _) i hi
 have hTs:=q0t P l o i
 have hpi:=hpart i
 have hsi:=hstp i
 have hxi:=hxget i
 have hwi:=hwget i
 have hpts:i<o.length→o.getD i 0<l.length:=fun h=>q1 _ (by rw[j6 o h];exact List.getElem_mem h)
 have hT2l:=fun h:i<o.length=>hmono o.length (Nat.le_refl _) (i+1) h
 have hfin:i=o.length→(totK P l o i).toNat=(r*P).toNat:=fun e=>by rw[e,htot,Int.mul_comm]
 generalize hT:totK P l o i=T at hTi hTl hTs hpi hfin ⊢
 generalize hTT:totK P l o (i+1)=T2 at hTs hT2l ⊢
 unfold stp at hTs
 (repeat (first|refine zs rfl ?_|refine zg rfl rfl rfl ?_|refine zd ?_|refine q9 ?_|refine q8 ?_))
 refine z8 rfl (fun hc=>?_) (fun hc=>?_)
 ·(simp only[↓cdL] at hc;try simp only[Ty.dflt,Int.toNat_natCast] at hc)
  have hio:i<o.length:=by omega
  replace hxi:=hxi hio
  replace hwi:=hwi hio
  replace hpi:=hpi hio
  obtain⟨⟨g1,g2⟩,⟨a1,a2⟩,l1,l2⟩:=hsi hio
  replace hpts:=hpts hio
  have hq:l.getD (o.getD i 0) zP=(aT l (o.getD i 0),lO l (o.getD i 0),()):=rfl
  generalize gp P l (o.getD i 0) (nx1 o i)=g at hwi g1 g2 hTs
  generalize aT l (o.getD i 0)=A at hpi a1 a2 hq
  generalize lO l (o.getD i 0)=LL at l1 l2 hq hTs
  generalize o.getD i 0=oi at hxi hpts hq
  have hil:(i:Int)<ws.length∧(i:Int)<xs.length∧(0:Int)≤i:=by omega
  (repeat (first|refine zs rfl ?_|refine zg rfl rfl rfl ?_|refine q9 ?_|refine q8 ?_))
  refine s8 xk (Tryz.f3.body.getD .skip) ⟨[(1,vL z),(4,.lf (.optr 0 [])),(6,.lf (.optr 1 [])),(9,vL xs),(10,vI r),(12,vL ws),(14,.lf (.osl 2)),(15,.lf (.osl 3)),(16,vI (i:Int)),(117,vB (bif decide (ws.getD i 0<0) then true else decide (P≤ws.getD i 0)))],
   [(0,.cell beT (vBe n ps)),(1,.cell seT (vS P l)),(2,.sl 3 (.int .i64) (wL z a0 T.toNat)),(3,.sl 3 (.int .i64) [])],4⟩ rfl 14 rfl ?_ ?_
  ·(refine z5 0 xk rfl rfl ?_;refine z5 1 xk rfl rfl ?_;refine z5 2 xk rfl rfl ?_;refine z9 3 xk rfl rfl ?_;refine z9 4 xk rfl rfl ?_;refine z9 5 xk rfl rfl ?_;refine j3 6 [7,10] xk ?_ ?_;(focus (repeat (first|exact StF.nil|refine j7 rfl rfl rfl ?_)));refine(BrF.one rfl rfl ?_ (BrF.one rfl rfl ?_ (BrF.one rfl rfl ?_ BrF.nil)));(· (refine x8 xk rfl rfl rfl ?_);refine j8 ?_;refine w5 7 xk rfl rfl rfl ?_;refine w5 8 xk rfl rfl rfl ?_;refine w5 10 xk rfl rfl rfl ?_;refine j3 9 [11] xk ?_ ?_;(focus (repeat (first|exact StF.nil|refine j7 rfl rfl rfl ?_)));refine(BrF.one rfl rfl ?_ (BrF.one rfl rfl ?_ BrF.nil));(· (refine x8 xk rfl rfl rfl ?_);refine j8 ?_;refine j3 11 [] xk ?_ ?_;(focus (repeat (first|exact StF.nil|refine j7 rfl rfl rfl ?_)));refine(BrF.one rfl rfl ?_ BrF.nil);(· (refine x8 xk rfl rfl rfl ?_);refine j8 ?_;refine w5 12 xk rfl rfl rfl ?_;refine z5 13 xk rfl rfl ?_;refine y9 xk ?_ ?_;(focus (repeat (first|exact StF.nil|refine j7 rfl rfl rfl ?_)));((exact z7 (by conv=>lhs;reduce)))));(· (refine x8 xk rfl rfl rfl ?_);refine j8 ?_;refine j3 9 [] xk ?_ ?_;(focus (repeat (first|exact StF.nil|refine j7 rfl rfl rfl ?_)));refine(BrF.one rfl rfl ?_ BrF.nil);(· (refine x8 xk rfl rfl rfl ?_);refine j8 ?_;refine w5 12 xk rfl rfl rfl ?_;refine z5 13 xk rfl rfl ?_;refine y9 xk ?_ ?_;(focus (repeat (first|exact StF.nil|refine j7 rfl rfl rfl ?_)));((exact z7 (by conv=>lhs;reduce))))));(· (refine x8 xk rfl rfl rfl ?_);refine j8 ?_;refine w5 6 xk rfl rfl rfl ?_;refine w5 8 xk rfl rfl rfl ?_;refine w5 10 xk rfl rfl rfl ?_;refine j3 9 [11] xk ?_ ?_;(focus (repeat (first|exact StF.nil|refine j7 rfl rfl rfl ?_)));refine(BrF.one rfl rfl ?_ (BrF.one rfl rfl ?_ BrF.nil));(· (refine x8 xk rfl rfl rfl ?_);refine j8 ?_;refine j3 11 [] xk ?_ ?_;(focus (repeat (first|exact StF.nil|refine j7 rfl rfl rfl ?_)));refine(BrF.one rfl rfl ?_ BrF.nil);(· (refine x8 xk rfl rfl rfl ?_);refine j8 ?_;refine w5 12 xk rfl rfl rfl ?_;refine z5 13 xk rfl rfl ?_;refine y9 xk ?_ ?_;(focus (repeat (first|exact StF.nil|refine j7 rfl rfl rfl ?_)));((exact z7 (by conv=>lhs;reduce)))));(· (refine x8 xk rfl rfl rfl ?_);refine j8 ?_;refine j3 9 [] xk ?_ ?_;(focus (repeat (first|exact StF.nil|refine j7 rfl rfl rfl ?_)));refine(BrF.one rfl rfl ?_ BrF.nil);(· (refine x8 xk rfl rfl rfl ?_);refine j8 ?_;refine w5 12 xk rfl rfl rfl ?_;refine z5 13 xk rfl rfl ?_;refine y9 xk ?_ ?_;(focus (repeat (first|exact StF.nil|refine j7 rfl rfl rfl ?_)));((exact z7 (by conv=>lhs;reduce))))));(· (refine x8 xk rfl rfl rfl ?_);refine j8 ?_;refine w5 6 xk rfl rfl rfl ?_;refine w5 7 xk rfl rfl rfl ?_;refine w5 8 xk rfl rfl rfl ?_;refine j3 9 [11] xk ?_ ?_;(focus (repeat (first|exact StF.nil|refine j7 rfl rfl rfl ?_)));refine(BrF.one rfl rfl ?_ (BrF.one rfl rfl ?_ BrF.nil));(· (refine x8 xk rfl rfl rfl ?_);refine j8 ?_;refine j3 11 [] xk ?_ ?_;(focus (repeat (first|exact StF.nil|refine j7 rfl rfl rfl ?_)));refine(BrF.one rfl rfl ?_ BrF.nil);(· (refine x8 xk rfl rfl rfl ?_);refine j8 ?_;refine w5 12 xk rfl rfl rfl ?_;refine z5 13 xk rfl rfl ?_;refine y9 xk ?_ ?_;(focus (repeat (first|exact StF.nil|refine j7 rfl rfl rfl ?_)));((exact z7 (by conv=>lhs;reduce)))));(· (refine x8 xk rfl rfl rfl ?_);refine j8 ?_;refine j3 9 [] xk ?_ ?_;(focus (repeat (first|exact StF.nil|refine j7 rfl rfl rfl ?_)));refine(BrF.one rfl rfl ?_ BrF.nil);(· (refine x8 xk rfl rfl rfl ?_);refine j8 ?_;refine w5 12 xk rfl rfl rfl ?_;refine z5 13 xk rfl rfl ?_;refine y9 xk ?_ ?_;(focus (repeat (first|exact StF.nil|refine j7 rfl rfl rfl ?_)));((exact z7 (by conv=>lhs;reduce)))))))
  rw[hwi]
  refine z8 rfl (fun h=>absurd h ?_) (fun _=>?_)
  ·have h1:¬ g<0:=by omega
   have h2:¬ P≤g:=by omega
   simp[h1,h2]
  (repeat (first|refine zs rfl ?_|refine zg rfl rfl rfl ?_|refine q9 ?_|refine q8 ?_))
  have hxb:0≤xs.getD i 0∧xs.getD i 0<l.length:=by rw[hxi];omega
  have hq':l.getD (Int.toNat (xs.getD (Int.toNat (i:Int)) (Ty.int .i64).dflt)) ptT.dflt=(A,LL,()):=by
   show l.getD (Int.toNat (xs.getD i 0)) zP=_
   rw[hxi,Int.toNat_natCast];exact hq
  refine s8 xk (Tryz.f3.body.getD .skip) ⟨[(1,vL z),(4,.lf (.optr 0 [])),(6,.lf (.optr 1 [])),(9,vL xs),(10,vI r),(12,vL ws),(14,.lf (.osl 2)),(15,.lf (.osl 3)),(16,vI (i:Int)),(17,.lf (.optr 4 []))],
   [(0,.cell beT (vBe n ps)),(1,.cell seT (vS P l)),(2,.sl 3 (.int .i64) (wL z a0 T.toNat)),(3,.sl 3 (.int .i64) []),(4,.cell ptT (.val ptT (l.getD (Int.toNat (xs.getD (Int.toNat (i:Int)) (Ty.int .i64).dflt)) ptT.dflt)))],5⟩ rfl 10 rfl ?_ ?_
  ·(refine z5 0 xk rfl rfl ?_;refine z5 2 xk rfl rfl ?_;refine z5 3 xk rfl rfl ?_;refine z5 4 xk rfl rfl ?_;refine z9 1 xk rfl rfl ?_;refine z9 5 xk rfl rfl ?_;refine z9 6 xk rfl rfl ?_;refine z9 7 xk rfl rfl ?_;refine j3 8 [] xk ?_ ?_;(focus (repeat (first|exact StF.nil|refine j7 rfl rfl rfl ?_)));refine(BrF.one rfl rfl ?_ BrF.nil);(· (refine d9 xk rfl rfl ?_);refine j8 ?_;refine j3 9 [] xk ?_ ?_;(focus (repeat (first|exact StF.nil|refine j7 rfl rfl rfl ?_)));refine(BrF.one rfl rfl ?_ BrF.nil);(· (first|refine JL.M0 xk rfl ?_);refine j8 ?_;refine y9 xk StF.nil ?_;((exact z7 (by conv=>lhs;reduce))))))
  rw[hq']
  clear hxb hq' hq hxi hpts
  have hgT:T+LL+g≤60:=by
   have h2:=hT2l hio
   rw[htot,Int.mul_comm] at h2
   omega
  (repeat (first|refine zs rfl ?_|refine zg rfl rfl rfl ?_|refine zd ?_|refine q9 ?_|refine q8 ?_))
  refine JK.loop (fun k:Nat=>⟨[(1,vL z),(4,.lf (.optr 0 [])),(6,.lf (.optr 1 [])),(9,vL xs),(10,vI r),(12,vL ws),(14,.lf (.osl 2)),(15,.lf (.osl 3)),(16,vI (i:Int)),(17,.lf (.optr 4 [])),(18,vI (k:Int))],
   [(0,.cell beT (vBe n ps)),(1,.cell seT (vS P l)),(2,.sl 3 (.int .i64) (wL z a0 (T.toNat+k))),(3,.sl 3 (.int .i64) []),(4,.cell ptT (vP (A,LL,())))],5⟩) (fun k=>(k:Int)≤LL+g) (fun k=>(LL+g).toNat-k) 0 (by omega) (by(exact z7 (by conv=>lhs;reduce))) fun k hk=>?_
  have hlD:=z1j z a0 (T.toNat+k)
  have hsD:=q7i z a0 (T.toNat+k)
  have hend:(k:Int)=LL+g→T.toNat+k=T2.toNat:=fun e=>by omega
  have hfD:(k:Int)=LL+g→wL z a0 (T.toNat+k)=wL z a0 T2.toNat:=fun e=>by rw[hend e]
  have hix:Int.toNat ((A+(k:Int)) % P)=(a0+(T.toNat+k)) % z.length:=by
   rw[hpi,ha0,Int.emod_add_emod,hPz]
   have:(a0:Int)+T+k=((a0+(T.toNat+k):Nat):Int):=by omega
   rw[this,← Int.natCast_emod,Int.toNat_natCast]
  have hib:0≤(A+(k:Int)) % P∧(A+(k:Int)) % P<z.length:=by
   rw[← hPz];exact⟨Int.emod_nonneg _ (by omega),Int.emod_lt_of_pos _ (by omega)⟩
  generalize wL z a0 (T.toNat+k)=D at hlD hsD hfD ⊢
  (repeat (first|refine zs rfl ?_|refine zg rfl rfl rfl ?_|refine q9 ?_|refine q8 ?_))
  refine s8 xk (Tryz.f3.body.getD .skip) ⟨[(1,vL z),(4,.lf (.optr 0 [])),(6,.lf (.optr 1 [])),(9,vL xs),(10,vI r),(12,vL ws),(14,.lf (.osl 2)),(15,.lf (.osl 3)),(16,vI (i:Int)),(17,.lf (.optr 4 [])),(18,vI (k:Int)),(139,vB (bif decide ((k:Int)<LL+ws.getD i 0) then decide ((D.length:Int)≤60) else false))],
   [(0,.cell beT (vBe n ps)),(1,.cell seT (vS P l)),(2,.sl 3 (.int .i64) D),(3,.sl 3 (.int .i64) []),(4,.cell ptT (vP (A,LL,())))],5⟩ rfl 14 rfl ?_ ?_
  ·have hwb:0≤ws.getD i 0∧ws.getD i 0<1000:=by rw[hwi];omega
   (refine z5 0 xk rfl rfl ?_;refine z5 1 xk rfl rfl ?_;refine z5 3 xk rfl rfl ?_;refine z5 4 xk rfl rfl ?_;refine z5 5 xk rfl rfl ?_;refine z9 2 xk rfl rfl ?_;refine z9 6 xk rfl rfl ?_;refine z9 7 xk rfl rfl ?_;refine z9 8 xk rfl rfl ?_;refine z9 9 xk rfl rfl ?_;refine j3 10 [] xk ?_ ?_;(focus (repeat (first|exact StF.nil|refine j7 rfl rfl rfl ?_)));refine(BrF.one rfl rfl ?_ BrF.nil);(· (refine x8 xk rfl rfl rfl ?_);refine j8 ?_;refine j3 11 [] xk ?_ ?_;(focus (repeat (first|exact StF.nil|refine j7 rfl rfl rfl ?_)));refine(BrF.one rfl rfl ?_ BrF.nil);(· (refine x8 xk rfl rfl rfl ?_);refine j8 ?_;refine j3 12 [] xk ?_ ?_;(focus (repeat (first|exact StF.nil|refine j7 rfl rfl rfl ?_)));refine(BrF.one rfl rfl ?_ BrF.nil);(· (refine x8 xk rfl rfl rfl ?_);refine j8 ?_;refine z5 13 xk rfl rfl ?_;refine y9 xk ?_ ?_;(focus (repeat (first|exact StF.nil|refine j7 rfl rfl rfl ?_)));((exact z7 (by conv=>lhs;reduce)))))))
  rw[hwi]
  refine z8 rfl (fun hd=>?_) (fun hd=>?_)
  ·have hkl:(k:Int)<LL+g:=by
    refine Int.not_le.1 fun h=>?_
    rw[decide_eq_false (by omega)] at hd;cases hd
   (repeat (first|refine zs rfl ?_|refine zg rfl rfl rfl ?_|refine zd ?_|refine q9 ?_|refine q8 ?_))
   refine⟨k+1,?_,by omega,by omega⟩
   rw[← Nat.add_assoc,hsD,← hix]
   (exact z7 (by conv=>lhs;reduce))
  ·have hke:(k:Int)=LL+g:=by
    refine Int.le_antisymm hk (Int.not_lt.1 fun h=>?_)
    rw[decide_eq_true h,cond_true,decide_eq_false_iff_not] at hd
    omega
   rw[hfD hke]
   (repeat (first|refine zs rfl ?_|refine zg rfl rfl rfl ?_|refine zd ?_|refine q9 ?_|refine q8 ?_))
   refine⟨i+1,?_,by omega,by omega⟩
   rw[hTT]
   (exact z7 (by conv=>lhs;reduce))
 ·(simp only[↓cdL] at hc;try simp only[Ty.dflt,Int.toNat_natCast] at hc)
  rw[hfin (by omega)]
  have hM:=hlen
  (repeat (first|refine zs rfl ?_|refine zg rfl rfl rfl ?_|refine zd ?_|refine q9 ?_|refine q8 ?_))
  refine JK.loop (fun k:Nat=>⟨[(1,vL z),(4,.lf (.optr 0 [])),(6,.lf (.optr 1 [])),(9,vL xs),(10,vI r),(14,.lf (.osl 2)),(15,.lf (.osl 3)),(19,vI (k:Int))],
   [(0,.cell beT (vBe n ps)),(1,.cell seT (vS P l)),(2,.sl 3 (.int .i64) (wL z a0 (r*P).toNat)),(3,.sl 3 (.int .i64) (wL z a0 k))],4⟩) (fun k=>(k:Int)≤r*P) (fun k=>(r*P).toNat-k) 0 (by omega) (by(exact z7 (by conv=>lhs;reduce))) fun k hk=>?_
  have hlD:=z1j z a0 k
  have hsD:=q7i z a0 k
  have hfD:(k:Int)=r*P→wL z a0 k=wL z a0 (r*P).toNat:=fun e=>by rw[show k=(r*P).toNat by omega]
  have ho0:=hxget 0 (List.length_pos_iff.2 q5)
  have hA:=(hstp 0 (List.length_pos_iff.2 q5)).2.1
  have hq:l.getD (o.getD 0 0) zP=(aT l (o.getD 0 0),lO l (o.getD 0 0),()):=rfl
  have hpt0:o.getD 0 0<l.length:=q1 _ (by rw[j6 o (List.length_pos_iff.2 q5)];exact List.getElem_mem _)
  rw[ha0] at hq hA
  generalize lO l (o.getD 0 0)=LL at hq
  have hq':l.getD (Int.toNat (xs.getD (Int.toNat 0) (Ty.int .i64).dflt)) ptT.dflt=((a0:Int),LL,()):=by
   show l.getD (Int.toNat (xs.getD 0 0)) zP=_
   rw[ho0,Int.toNat_natCast];exact hq
  have hxb:0≤xs.getD 0 0∧xs.getD 0 0<l.length:=by rw[ho0];omega
  have hx0:(0:Int)<xs.length:=by have:=List.length_pos_iff.2 q5;omega
  have hix:Int.toNat (((a0:Int)+(k:Int)) % P)=(a0+k) % z.length:=by
   rw[hPz]
   have:(a0:Int)+k=((a0+k:Nat):Int):=by omega
   rw[this,← Int.natCast_emod,Int.toNat_natCast]
  have hib:0≤((a0:Int)+(k:Int)) % P∧((a0:Int)+(k:Int)) % P<z.length:=by
   rw[← hPz];exact⟨Int.emod_nonneg _ (by omega),Int.emod_lt_of_pos _ (by omega)⟩
  generalize hDk:wL z a0 k=D at hlD hsD hfD ⊢
  (repeat (first|refine zs rfl ?_|refine zg rfl rfl rfl ?_|refine zd ?_|refine q9 ?_|refine q8 ?_))
  refine z8 rfl (fun hd=>?_) (fun hd=>?_)
  ·(simp only[↓cdL] at hd;try simp only[Ty.dflt,Int.toNat_natCast] at hd)
   (repeat (first|refine zs rfl ?_|refine zg rfl rfl rfl ?_|refine q9 ?_|refine q8 ?_))
   have hp0:(l.getD (Int.toNat (xs.getD (Int.toNat 0) (Ty.int .i64).dflt)) ptT.dflt).1=(a0:Int):=by rw[hq']
   refine q8n xk (Tryz.f3.body.getD .skip) ⟨[(1,vL z),(4,.lf (.optr 0 [])),(6,.lf (.optr 1 [])),(9,vL xs),(10,vI r),(14,.lf (.osl 2)),(15,.lf (.osl 3)),(19,vI (k:Int))],
    [(0,.cell beT (vBe n ps)),(1,.cell seT (vS P l)),(2,.sl 3 (.int .i64) (wL z a0 (r*P).toNat)),(3,.sl 3 (.int .i64) (D++[z.getD (Int.toNat (((l.getD (Int.toNat (xs.getD (Int.toNat 0) (Ty.int .i64).dflt)) ptT.dflt).1+(k:Int)) % P)) 0]))],4⟩ rfl 20 rfl ?_ ?_
   ·rw[← hp0] at hib hA
    (refine z5 0 xk rfl rfl ?_;refine z5 1 xk rfl rfl ?_;refine z5 2 xk rfl rfl ?_;refine z5 4 xk rfl rfl ?_;refine z5 5 xk rfl rfl ?_;refine z5 10 xk rfl rfl ?_;refine z5 12 xk rfl rfl ?_;refine z9 3 xk rfl rfl ?_;refine z9 6 xk rfl rfl ?_;refine z9 7 xk rfl rfl ?_;refine z9 8 xk rfl rfl ?_;refine z9 9 xk rfl rfl ?_;refine z9 11 xk rfl rfl ?_;refine z9 13 xk rfl rfl ?_;refine z9 14 xk rfl rfl ?_;refine z9 15 xk rfl rfl ?_;refine z9 16 xk rfl rfl ?_;refine j3 17 [] xk ?_ ?_;(focus (repeat (first|exact StF.nil|refine j7 rfl rfl rfl ?_)));refine(BrF.one rfl rfl ?_ BrF.nil);(· (refine d9 xk rfl rfl ?_);refine j8 ?_;refine j3 18 [] xk ?_ ?_;(focus (repeat (first|exact StF.nil|refine j7 rfl rfl rfl ?_)));refine(BrF.one rfl rfl ?_ BrF.nil);(· (first|refine d9 xk rfl rfl ?_|refine JL.M0 xk rfl ?_);refine j8 ?_;refine z9 19 xk rfl rfl ?_;refine y9 xk ?_ ?_;(focus (repeat (first|exact StF.nil|refine j7 rfl rfl rfl ?_)));((exact z7 (by conv=>lhs;reduce))))))
   rw[hq',hix,← hsD]
   (repeat (first|refine zs rfl ?_|refine zg rfl rfl rfl ?_|refine zd ?_|refine q9 ?_|refine q8 ?_))
   exact⟨k+1,by(exact z7 (by conv=>lhs;reduce)),by omega,by omega⟩
  ·(simp only[↓cdL] at hd;try simp only[Ty.dflt,Int.toNat_natCast] at hd)
   rw[hfD (by omega)]
   clear hfD hsD hlD hix hib hxb hx0 hq' hq hDk
   have hrz:(r*P).toNat=r.toNat*z.length:=by
    rw[hPz]
    have:r*(z.length:Int)=((r.toNat*z.length:Nat):Int):=by
     rw[Int.natCast_mul,Int.toNat_of_nonneg (by omega)]
    rw[this,Int.toNat_natCast]
   have hw:=shF_wL (n:=n) (ps:=ps) hlst ha0z (m:=r.toNat) (by rw[← hrz];omega)
   rw[← hrz] at hw
   obtain⟨hw1,hw2⟩:=hw
   have c11:=fn11 hw1 hw1
   rw[if_pos rfl] at c11
   have c12:=fn12 hlst
   have c13:=fn12 hw1
   generalize wL z a0 (r*P).toNat=W at c11 c13 hw2 ⊢
   generalize shF ps W=G at hw2 c13
   generalize shF ps z=F at hw2 c12
   (repeat (first|refine zs rfl ?_|refine zg rfl rfl rfl ?_|refine zd ?_|refine q9 ?_|refine q8 ?_|refine zc rfl (c11) rfl rfl ?_|refine ze rfl (c11) rfl ?_|refine zk rfl rfl (fun _=>c11) rfl rfl ?_))
   refine z8 rfl (fun h=>absurd h (by simp)) (fun _=>?_)
   (repeat (first|refine zs rfl ?_|refine zg rfl rfl rfl ?_|refine zd ?_|refine q9 ?_|refine q8 ?_|refine zc rfl (c12) rfl rfl ?_|refine ze rfl (c12) rfl ?_|refine zk rfl rfl (fun _=>c12) rfl rfl ?_))
   (refine z8k [2] [11,20,201,202] rfl ?_)
   cases F with
   |nil=>
    rw[hw2 rfl] at c13
    (repeat (first|refine zt rfl rfl ?_|refine zfl rfl rfl rfl ?_|refine zs rfl ?_|refine ze rfl c13 rfl ?_|refine q8m rfl rfl rfl rfl trivial trivial ?_))
    refine q33 rfl h7 hz rfl trivial ?_
    (repeat (first|refine zs rfl ?_|refine zg rfl rfl rfl ?_|refine zd ?_|refine q9 ?_|refine q8 ?_))
    refine⟨.inl rfl,_,_,rfl,trivial,?_⟩
    rfl
   |cons x y=>
    (repeat (first|refine zt rfl rfl ?_|refine zs rfl ?_|refine zg rfl rfl rfl ?_|refine zd ?_|refine q9 ?_|refine q8 ?_|refine zc rfl (c13) rfl rfl ?_|refine ze rfl (c13) rfl ?_|refine zk rfl rfl (fun _=>c13) rfl rfl ?_))
    refine q32 rfl ?_ rfl h7 hz rfl trivial ?_
    ·simp[wantB]
    (repeat (first|refine zs rfl ?_|refine zg rfl rfl rfl ?_|refine zd ?_|refine q9 ?_|refine q8 ?_))
    refine⟨.inl rfl,_,_,rfl,trivial,?_⟩
    simp
end Go.Proofs.YtjfafggkkjgpeaaGreatDoor
namespace Go.Proofs.YtjfafggkkjgpeaaGreatDoor
open Go Go.RowKit Ox Ox.Sh Ox.Se
attribute [local irreducible] JC JL JK JW
end Go.Proofs.YtjfafggkkjgpeaaGreatDoor
namespace Go.Proofs.YtjfafggkkjgpeaaGreatDoor
open Go Go.RowKit Ox Ox.Sh Ox.Se Ox.Rn
attribute [local irreducible] JC JL JK JW
variable {gs:List Gt}
theorem works03(h1:FnZ (Laid gs) Tryz.prog 44 (.bool true))(h2:FnZ (Laid gs) Tryz.prog 45 (.bool true))(h3:FnZ (Laid gs) Tryz.prog 46 (.bool true)):FnZ (Laid gs) Tryz.prog 22 (.bool true):=by
 refine z80 (r:=vB true) rfl (Ox.FnL.intro xok Tryz.func22 rfl Tryz.call22 (Nat.le_of_ble_eq_true rfl) (fun E M0 up hz=>?_))
 refine j4 ?_
 (repeat (first|refine zs rfl ?_|refine zg rfl rfl rfl ?_|refine zd ?_|refine q9 ?_|refine q8 ?_))
 refine q33 rfl h1 hz rfl trivial ?_
 (repeat (first|refine zs rfl ?_|refine zg rfl rfl rfl ?_|refine zd ?_|refine q9 ?_|refine q8 ?_))
 refine q32 rfl rfl rfl h2 hz rfl trivial ?_
 (repeat (first|refine zs rfl ?_|refine zg rfl rfl rfl ?_|refine zd ?_|refine q9 ?_|refine q8 ?_))
 refine q32 rfl rfl rfl h3 hz rfl trivial ?_
 (repeat (first|refine zs rfl ?_|refine zg rfl rfl rfl ?_|refine zd ?_|refine q9 ?_|refine q8 ?_))
 refine⟨.inl rfl,_,_,rfl,trivial,?_⟩
 rfl
theorem works04(h1:FnZ (Laid gs) Tryz.prog 22 (.bool true))(h2:FnZ (Laid gs) Tryz.prog 23 (.bool true)):FnZ (Laid gs) Tryz.prog 7 (.bool true):=by
 refine z80 (r:=vB true) rfl (Ox.FnL.intro xok Tryz.func7 rfl Tryz.call7 (Nat.le_of_ble_eq_true rfl) (fun E M0 up hz=>?_))
 refine j4 ?_
 (repeat (first|refine zs rfl ?_|refine zg rfl rfl rfl ?_|refine zd ?_|refine q9 ?_|refine q8 ?_))
 refine q33 rfl h1 hz rfl trivial ?_
 (repeat (first|refine zs rfl ?_|refine zg rfl rfl rfl ?_|refine zd ?_|refine q9 ?_|refine q8 ?_))
 refine q32 rfl rfl rfl h2 hz rfl trivial ?_
 (repeat (first|refine zs rfl ?_|refine zg rfl rfl rfl ?_|refine zd ?_|refine q9 ?_|refine q8 ?_))
 refine⟨.inl rfl,_,_,rfl,trivial,?_⟩
 rfl
end Go.Proofs.YtjfafggkkjgpeaaGreatDoor
