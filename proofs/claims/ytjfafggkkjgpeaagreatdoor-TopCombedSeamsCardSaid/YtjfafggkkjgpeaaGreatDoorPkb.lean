/- Texts of the proof of the statement that the last text proves. -/
import Derived.Test.YtjfafggkkjgpeaaGreatDoorPka
import Derived.RangeFuncNested
import Derived.DeepKeys3
import Derived.MapKept
import Derived.ChangeMaps4
import Derived.Maps.RangeRun
import Derived.Test.YtjfafggkkjgpeaaGreatDoorProg
import Init
set_option linter.all false
set_option maxHeartbeats 2000000
namespace Ox
open Go Go.RowKit
variable {X:Ctx}{s:S}{M:Mem}{ρ:Env}{a:Act}{w w':World}{QA:Exit→S→Prop}{all l:List Oper}{md:Bool}{o:Oper}
def cellEq:Value→Value→Bool
 |.int k n,.int k' m=>k==k'&&n==m
 |.bool a,.bool b=>a==b
 |.slice none 0 0,.slice none 0 0=>true
 |.pointer none,.pointer none=>true
 |_,_=>false
theorem q5a{a b:Value}(h:cellEq a b=true):a=b:=by
 unfold cellEq at h
 split at h
 ·simp only[Bool.and_eq_true,beq_iff_eq] at h;rw[h.1,h.2]
 ·simp only[beq_iff_eq] at h;rw[h]
 ·rfl
 ·rfl
 ·cases h
def cellsEq:List Value→List Value→Bool
 |[],[]=>true
 |a::x,b::y=>cellEq a b&&cellsEq x y
 |_,_=>false
theorem q3u:∀ {x y:List Value},cellsEq x y=true→x=y
 |[],[],_=>rfl
 |a::x,b::y,h=>by simp only[cellsEq,Bool.and_eq_true] at h;rw[q5a h.1,q3u h.2]
 |[],_::_,h=>by simp[cellsEq] at h
 |_::_,[],h=>by simp[cellsEq] at h
def zeroEq:Value→Value→Bool
 |.agg x,.agg y=>cellsEq x.toList y.toList
 |a,b=>cellEq a b
theorem q9w{a b:Value}(h:zeroEq a b=true):a=b:=by
 unfold zeroEq at h
 split at h
 ·have:=q3u h
  rw[Array.ext' this]
 ·exact q5a h
def infoB(P:Program)(id:TypeId)(t:Ty):Bool:=
 match P.info? id with
 |some i=>i.size==t.size&&decide (i.bytes≤65536)&&(match i.zero with|some z=>zeroEq z (t.wrap t.zc)|none=>false)
 |none=>false
theorem t5{P:Program}{id:TypeId}{t:Ty}{d:TypeDesc}(h:infoB P id t=true)(hd:P.underlying id=some d):InfoOf P id t d:=by
 unfold infoB at h
 split at h
 ·rename_i i hi
  simp only[Bool.and_eq_true,beq_iff_eq,decide_eq_true_eq] at h
  refine⟨hd,by rw[hi];simp[h.1.1],?_,by rw[hi];simp[h.1.2]⟩
  have h2:=h.2
  split at h2
  ·rename_i z hz
   rw[hi];simp[hz,q9w h2]
  ·cases h2
 ·cases h
def tyB(P:Program):Ty→TypeId→Bool
 |.int k,id=>infoB P id (.int k)&&(match P.underlying id with|some (.int k')=>k'==k|_=>false)
 |.bool,id=>infoB P id .bool&&(match P.underlying id with|some .bool=>true|_=>false)
 |.slice e,id=>infoB P id (.slice e)&&(match P.underlying id with|some (.slice eid)=>tyB P e eid|_=>false)
 |.ptr e,id=>infoB P id (.ptr e)&&(match P.underlying id with|some (.pointer eid)=>tyB P e eid|_=>false)
 |.arr n e,id=>infoB P id (.arr n e)&&(match P.underlying id with|some (.array m eid)=>m==n&&tyB P e eid|_=>false)
 |.nil,_=>false
 |.cons a b,id=>infoB P id (.cons a b)&&(match P.underlying id with
   |some (.struct fs)=>(match fs.toList with
    |f::r=>f.offset==0&&tyB P a f.type&&a.size != 0&&fieldsB P b r a.size
    |[]=>false)
   |_=>false)
where
 fieldsB (P:Program):Ty→List Field→Nat→Bool
 |.nil,[],_=>true
 |.cons a b,f::r,off=>f.offset==off&&tyB P a f.type&&a.size != 0&&fieldsB P b r (off+a.size)
 |_,_,_=>false
mutual
theorem e8{P:Program}:∀ {t:Ty} {id:TypeId},tyB P t id=true→TyOf P t id
 |.int k,id,h=>by
  simp only[tyB,Bool.and_eq_true] at h
  obtain⟨h1,h2⟩:=h
  split at h2
  ·rename_i k' hk;simp only[beq_iff_eq] at h2;subst h2;simp only[TyOf];exact t5 h1 hk
  ·cases h2
 |.bool,id,h=>by
  simp only[tyB,Bool.and_eq_true] at h
  obtain⟨h1,h2⟩:=h
  split at h2
  ·rename_i hk;simp only[TyOf];exact t5 h1 hk
  ·cases h2
 |.slice e,id,h=>by
  simp only[tyB,Bool.and_eq_true] at h
  obtain⟨h1,h2⟩:=h
  split at h2
  ·rename_i eid hk;simp only[TyOf];exact⟨eid,t5 h1 hk,e8 h2⟩
  ·cases h2
 |.ptr e,id,h=>by
  simp only[tyB,Bool.and_eq_true] at h
  obtain⟨h1,h2⟩:=h
  split at h2
  ·rename_i eid hk;simp only[TyOf];exact⟨eid,t5 h1 hk,e8 h2⟩
  ·cases h2
 |.arr n e,id,h=>by
  simp only[tyB,Bool.and_eq_true] at h
  obtain⟨h1,h2⟩:=h
  split at h2
  ·rename_i m eid hk
   simp only[Bool.and_eq_true,beq_iff_eq] at h2
   obtain⟨rfl,h2⟩:=h2
   simp only[TyOf];exact⟨eid,t5 h1 hk,e8 h2⟩
  ·cases h2
 |.nil,id,h=>by simp[tyB] at h
 |.cons a b,id,h=>by
  simp only[tyB,Bool.and_eq_true] at h
  obtain⟨h1,h2⟩:=h
  split at h2
  ·rename_i fs hk
   simp only[TyOf]
   refine⟨fs,t5 h1 hk,?_⟩
   split at h2
   ·rename_i f r hf
    simp only[Bool.and_eq_true,beq_iff_eq,bne_iff_ne] at h2
    simp only[hf]
    exact⟨h2.1.1.1,e8 h2.1.1.2,h2.1.2,q3q h2.2⟩
   ·cases h2
  ·cases h2
theorem q3q{P:Program}:∀ {t:Ty} {r:List Field} {off:Nat},tyB.fieldsB P t r off=true→TyOf.fields P t r off
 |.nil,[],_,_=>by simp[TyOf.fields]
 |.cons a b,f::r,off,h=>by
  simp only[tyB.fieldsB,Bool.and_eq_true,beq_iff_eq,bne_iff_ne] at h
  simp only[TyOf.fields]
  exact⟨h.1.1.1,e8 h.1.1.2,h.1.2,q3q h.2⟩
 |.nil,_::_,_,h=>by simp[tyB.fieldsB] at h
 |.cons _ _,[],_,h=>by simp[tyB.fieldsB] at h
 |.int _,_,_,h=>by simp[tyB.fieldsB] at h
 |.bool,_,_,h=>by simp[tyB.fieldsB] at h
 |.slice _,_,_,h=>by simp[tyB.fieldsB] at h
 |.ptr _,_,_,h=>by simp[tyB.fieldsB] at h
 |.arr _ _,_,_,h=>by simp[tyB.fieldsB] at h
end
def tabB(P:Program)(T:List (Nat×Ty))(ET:List (Nat×Nat))(MT:List (Nat×(Nat×Nat))):Bool:=
 T.all (fun p=>tyB P p.2 p.1)&&ET.all (fun p=>match P.underlying p.1 with|some (.slice e)=>e==p.2|_=>false)&&MT.all (fun p=>match P.underlying p.1 with|some (.map k e)=>k==p.2.1&&e==p.2.2|_=>false)&&P.follows .mixedOrders
theorem z5o{P:Program}{T:List (Nat×Ty)}{ET:List (Nat×Nat)}{MT:List (Nat×(Nat×Nat))}(h:tabB P T ET MT=true){X:Ctx}(h1:X.P=P)(h2:X.T=T)(h3:X.ET=ET)(h4:X.MT=MT):XOK X:=by
 subst h1 h2 h3 h4
 simp only[tabB,Bool.and_eq_true] at h
 obtain⟨⟨⟨h1,h2⟩,h4⟩,h3⟩:=h
 refine⟨fun id t hl=>e8 (List.all_eq_true.1 h1 (id,t) (p4 hl)),fun id e hl=>?_,fun id kv hl=>?_,h3⟩
 ·have:=List.all_eq_true.1 h2 (id,e) (p4 hl)
  simp only at this
  split at this
  ·rename_i e' he
   simp only[beq_iff_eq] at this
   subst this;exact he
  ·cases this
 ·have:=List.all_eq_true.1 h4 (id,kv) (p4 hl)
  simp only at this
  split at this
  ·rename_i k e he
   simp only[beq_iff_eq,Bool.and_eq_true] at this
   obtain⟨e1,e2⟩:=this
   rw[he,e1,e2]
  ·cases this
def Leaf.ren(f:Nat→Nat):Leaf→Leaf
 |.nils=>.nils|.nilp=>.nilp
 |.osl l=>.osl (f l)|.ovw l a b c=>.ovw (f l) a b c|.optr l p=>.optr (f l) p|.oelt l k p=>.oelt (f l) k p|.oarr l p n c=>.oarr (f l) p n c
 |.mp l=>.mp (f l)|.itr l=>.itr (f l)|.yld l=>.yld (f l)
def RV.ren(f:Nat→Nat):RV→RV
 |.p l q=>.p (f l) q|.s l q k c=>.s (f l) q k c|.o l e lo hi w z=>.o (f l) e lo hi w z|.m l=>.m (f l)|.it l=>.it (f l)|.y l=>.y (f l)
 |.f fi a c=>.f fi (a.ren f) (c.ren f)|.g c=>.g (c.ren f)|.t c=>.t (c.ren f)|.cons a r=>.cons (a.ren f) (r.ren f)
 |r=>r
def AV.ren(f:Nat→Nat):AV→AV
 |.val t x=>.val t x|.anil=>.anil|.undef=>.undef|.full e l=>.full e l
 |.lf x=>.lf (x.ren f)
 |.mix a b=>.mix (a.ren f) (b.ren f)|.acons a b=>.acons (a.ren f) (b.ren f)|.fn g a b=>.fn g (a.ren f) (b.ren f)
 |.tup a=>.tup (a.ren f)|.gd g a=>.gd g (a.ren f)|.pfn a=>.pfn (a.ren f)
 |.raw r=>.raw (r.ren f)
def HO.ren(f:Nat→Nat):HO→HO
 |.cell t a=>.cell t (a.ren f)
 |.sl eid e xs=>.sl eid e xs
 |.map kt vt es clk=>.map kt vt es clk
 |.iter m since seen last=>.iter (f m) since seen last
 |.cus Q=>.cus Q
 |.loop st pe ps az bd n L=>.loop st pe ps az bd n (L.map fun p=>(p.1,p.2.ren f))
 |.fr i L=>.fr i (L.map fun p=>(p.1,p.2.ren f))
 |.raw ty k n c=>.raw ty k n fun i=>(c i).ren f
 |.rmap es clk=>.rmap (es.map fun x=>(x.1.ren f,x.2.1.ren f,x.2.2)) clk
 |.riter m since seen last bk=>.riter (f m) since seen last bk
 |.gl g ty n c=>.gl g ty n fun i=>(c i).ren f
theorem z8n{f:AV→AV}:∀ {L:List (Nat×AV)} {d:Nat},lk (L.map fun p=>(p.1,f p.2)) d=(lk L d).map f
 |[],_=>rfl
 |(k,v)::r,d=>by
  simp only[List.map_cons,lk]
  split
  ·rfl
  ·exact z8n
def Env.via(ρ:Env)(f:Nat→Nat):Env:=⟨fun l=>ρ.blk (f l),fun l=>ρ.ty (f l),fun l=>ρ.sv (f l)⟩
theorem q7b(ρ:Env)(f:Nat→Nat)(x:Leaf):x.at (ρ.via f)=(x.ren f).at ρ:=by cases x<;>rfl
mutual
theorem q16(ρ:Env)(f:Nat→Nat):∀ r:RV,r.cv (ρ.via f)=(r.ren f).cv ρ
 |.i ..|.b _|.np|.ns|.fz|.nm|.u|.nil|.cons _ _|.p ..|.s ..|.m _|.it _|.y _|.o ..=>rfl
 |.f _ a c=>by simp only[RV.cv,RV.ren];rw[q31 ρ f a,q31 ρ f c]
 |.g c|.t c=>by simp only[RV.cv,RV.ren];rw[q31 ρ f c]
theorem q31(ρ:Env)(f:Nat→Nat):∀ r:RV,r.cl (ρ.via f)=(r.ren f).cl ρ
 |.cons a r=>by simp only[RV.cl,RV.ren];rw[q16 ρ f a,q31 ρ f r]
 |.i ..|.b _|.np|.ns|.fz|.nm|.u|.nil|.p ..|.s ..|.m _|.it _|.y _|.o ..|.f ..|.g _|.t _=>rfl
end
mutual
theorem q42(M:Mem)(ρ:Env)(f:Nat→Nat):∀ (a:AV) (v:Value),(a.ren f).rv M ρ v→a.rv M (ρ.via f) v
 |.val _ _,v,h=>by simp only[AV.ren,AV.rv] at h ⊢;exact h
 |.anil,v,h=>by simp only[AV.ren,AV.rv] at h
 |.undef,v,h=>by simp only[AV.ren,AV.rv] at h ⊢;exact h
 |.full _ _,v,h=>by simp only[AV.ren,AV.rv] at h ⊢;exact h
 |.lf x,v,h=>by simp only[AV.ren,AV.rv] at h ⊢;rw[q7b];exact h
 |.mix a b,v,h=>by simp only[AV.ren,AV.rv] at h ⊢;obtain⟨c1,c2,h1,h2,h3⟩:=h;exact⟨c1,c2,q96 M ρ f a c1 h1,q96 M ρ f b c2 h2,h3⟩
 |.acons _ _,v,h=>by simp only[AV.ren,AV.rv] at h
 |.fn g a b,v,h=>by simp only[AV.ren,AV.rv] at h ⊢;obtain⟨c1,c2,h1,h2,h3⟩:=h;exact⟨c1,c2,q4d M ρ f a c1 h1,q4d M ρ f b c2 h2,h3⟩
 |.tup a,v,h=>by simp only[AV.ren,AV.rv] at h ⊢;obtain⟨c1,h1,h2⟩:=h;exact⟨c1,q4d M ρ f a c1 h1,h2⟩
 |.gd g a,v,h=>by simp only[AV.ren,AV.rv] at h ⊢;exact⟨fun e=>q42 M ρ f a v (h.1 e),h.2⟩
 |.pfn a,v,h=>by simp only[AV.ren,AV.rv] at h ⊢;obtain⟨b,fv,ty,fz,h1,h2,h3⟩:=h;exact⟨b,fv,ty,fz,h1,h2,q42 M ρ f a fv h3⟩
 |.raw r,v,h=>by simp only[AV.ren,AV.rv] at h ⊢;rw[h,q16]
theorem q4d(M:Mem)(ρ:Env)(f:Nat→Nat):∀ (a:AV) (v:List Value),(a.ren f).rvs M ρ v→a.rvs M (ρ.via f) v
 |.anil,v,h=>by simp only[AV.ren,AV.rvs] at h ⊢;exact h
 |.acons a b,v,h=>by simp only[AV.ren,AV.rvs] at h ⊢;obtain⟨c1,c2,h1,h2,h3⟩:=h;exact⟨c1,c2,q42 M ρ f a c1 h1,q4d M ρ f b c2 h2,h3⟩
 |.val _ _,v,h=>by simp only[AV.ren,AV.rvs] at h
 |.undef,v,h=>by simp only[AV.ren,AV.rvs] at h
 |.full _ _,v,h=>by simp only[AV.ren,AV.rvs] at h
 |.lf x,v,h=>by simp only[AV.ren,AV.rvs] at h
 |.mix a b,v,h=>by simp only[AV.ren,AV.rvs] at h
 |.fn g a b,v,h=>by simp only[AV.ren,AV.rvs] at h
 |.tup a,v,h=>by simp only[AV.ren,AV.rvs] at h
 |.gd g a,v,h=>by simp only[AV.ren,AV.rvs] at h
 |.pfn a,v,h=>by simp only[AV.ren,AV.rvs] at h
 |.raw a,v,h=>by simp only[AV.ren,AV.rvs] at h
theorem q96(M:Mem)(ρ:Env)(f:Nat→Nat):∀ (a:AV) (v:List Value),(a.ren f).rc M ρ v→a.rc M (ρ.via f) v
 |.val _ _,v,h=>by simp only[AV.ren,AV.rc] at h ⊢;exact h
 |.lf x,v,h=>by simp only[AV.ren,AV.rc] at h ⊢;rw[q7b];exact h
 |.mix a b,v,h=>by simp only[AV.ren,AV.rc] at h ⊢;obtain⟨c1,c2,h1,h2,h3⟩:=h;exact⟨c1,c2,q96 M ρ f a c1 h1,q96 M ρ f b c2 h2,h3⟩
 |.fn g a b,v,h=>by simp only[AV.ren,AV.rc] at h ⊢;obtain⟨c1,c2,h1,h2,h3⟩:=h;exact⟨c1,c2,q4d M ρ f a c1 h1,q4d M ρ f b c2 h2,h3⟩
 |.anil,v,h=>by simp only[AV.ren,AV.rc] at h
 |.undef,v,h=>by simp only[AV.ren,AV.rc] at h
 |.full _ _,v,h=>by simp only[AV.ren,AV.rc] at h
 |.acons _ _,v,h=>by simp only[AV.ren,AV.rc] at h
 |.tup a,v,h=>by simp only[AV.ren,AV.rc] at h
 |.gd g a,v,h=>by simp only[AV.ren,AV.rc] at h
 |.pfn a,v,h=>by simp only[AV.ren,AV.rc] at h
 |.raw a,v,h=>by simp only[AV.ren,AV.rc] at h
end
theorem conf_ren(f:Nat→Nat):∀ {t:Ty} {a:AV},confB t (a.ren f)=confB t a:=by
 intro t a
 induction a generalizing t with
 |mix x y ihx ihy=>cases t<;>simp[AV.ren,confB,ihx,ihy]
 |lf x=>cases x<;>cases t<;>rfl
 |_=>cases t<;>rfl
def covL(f:Nat→Nat):List (Nat×AV)→List (Nat×AV)→Prop
 |[],_=>True
 |(d,v)::r,L=>lk L d=some (v.ren f)∧covL f r L
def covH(f:Nat→Nat):List (Nat×HO)→List (Nat×HO)→Prop
 |[],_=>True
 |(d,o)::r,H=>lk H (f d)=some (o.ren f)∧covH f r H
theorem z01{f:Nat→Nat}{L:List (Nat×AV)}:∀ {r:List (Nat×AV)},covL f r L→∀ d v,(d,v)∈r→lk L d=some (v.ren f)
 |[],_,d,v,h=>by simp at h
 |(k,u)::r,hc,d,v,h=>by
  rcases List.mem_cons.1 h with h|h
  ·injection h with h1 h2;subst h1 h2;exact hc.1
  ·exact z01 hc.2 d v h
theorem z02{f:Nat→Nat}{L:List (Nat×HO)}:∀ {r:List (Nat×HO)},covH f r L→∀ d v,(d,v)∈r→lk L (f d)=some (v.ren f)
 |[],_,d,v,h=>by simp at h
 |(k,u)::r,hc,d,v,h=>by
  rcases List.mem_cons.1 h with h|h
  ·injection h with h1 h2;subst h1 h2;exact hc.1
  ·exact z02 hc.2 d v h
def bdL(n:Nat):List (Nat×AV)→Prop
 |[]=>True
 |(_,v)::r=>v.bd n∧bdL n r
def bdH(n:Nat):List (Nat×HO)→Prop
 |[]=>True
 |(d,o)::r=>d<n∧o.bd n∧bdH n r
theorem q9n{n:Nat}:∀ {r:List (Nat×AV)},bdL n r→∀ d v,(d,v)∈r→v.bd n
 |[],_,d,v,h=>by simp at h
 |(k,u)::r,hc,d,v,h=>by
  rcases List.mem_cons.1 h with h|h
  ·injection h with h1 h2;subst h1 h2;exact hc.1
  ·exact q9n hc.2 d v h
theorem q9o{n:Nat}:∀ {r:List (Nat×HO)},bdH n r→∀ d v,(d,v)∈r→d<n∧v.bd n
 |[],_,d,v,h=>by simp at h
 |(k,u)::r,hc,d,v,h=>by
  rcases List.mem_cons.1 h with h|h
  ·injection h with h1 h2;subst h1 h2;exact⟨hc.1,hc.2.1⟩
  ·exact q9o hc.2.2 d v h
def injH(f:Nat→Nat):List (Nat×HO)→Bool
 |[]=>true
 |(d,_)::r=>r.all (fun p=>p.1==d||f p.1 != f d)&&injH f r
theorem z0r{f:Nat→Nat}:∀ {r:List (Nat×HO)},injH f r=true→∀ d o d' o',(d,o)∈r→(d',o')∈r→f d=f d'→d=d'
 |[],_,d,o,d',o',h,_,_=>by simp at h
 |(k,u)::r,hc,d,o,d',o',h,h',e=>by
  simp only[injH,Bool.and_eq_true,List.all_eq_true,Bool.or_eq_true,beq_iff_eq,bne_iff_ne] at hc
  rcases List.mem_cons.1 h with g|g<;>rcases List.mem_cons.1 h' with g'|g'
  ·injection g with h1;injection g' with h2;omega
  ·injection g with h1 h2
   rcases hc.1 _ g' with h3|h3
   ·exact h1.trans h3.symm
   ·exact absurd (h1▸e.symm) h3
  ·injection g' with h1 h2
   rcases hc.1 _ g with h3|h3
   ·exact h3.trans h1.symm
   ·exact absurd (h1▸e) h3
  ·exact z0r hc.2 d o d' o' g g' e
theorem z1i{f:Nat→Nat}{l:Nat}{o:HO}(h:(o.ren f).ok X M ρ (f l) w):o.ok X M (ρ.via f) l w:=by
 cases o with
 |cell t a=>
  simp only[HO.ren,HO.ok] at h ⊢
  obtain⟨h1,h2,h3,c,ty,h4,h5⟩:=h
  exact⟨h1,by rw[← conf_ren f];exact h2,h3,c,ty,h4,q96 M ρ f a _ h5⟩
 |sl eid e xs=>exact h
 |map kt vt es clk=>exact h
 |iter m since seen last=>exact h
 |cus Q=>exact h
 |loop st pe ps az bd n L=>
  simp only[HO.ren,HO.ok] at h ⊢
  obtain⟨h1,fn,tm,D,h2,h3,h4⟩:=h
  exact⟨h1,fn,tm,D,h2,h3,fun d v hd=>q42 M ρ f v _ (h4 d _ (by rw[z8n,hd];rfl))⟩
 |fr i L=>
  simp only[HO.ren,HO.ok] at h ⊢
  exact⟨h.1,fun d v hd=>q42 M ρ f v _ (h.2 d _ (by rw[z8n,hd];rfl))⟩
 |raw ty k n c=>
  simp only[HO.ren,HO.ok] at h ⊢
  obtain⟨h1,cs,h2,h3,h4,h5⟩:=h
  exact⟨h1,cs,h2,h3,fun i hi=>by rw[q16];exact h4 i hi,h5⟩
 |rmap es clk=>
  simp only[HO.ren,HO.ok] at h ⊢
  obtain⟨h1,ms,h2,h3⟩:=h
  refine⟨h1,ms,h2,h3.trans ?_⟩
  rw[List.map_map]
  exact List.map_congr_left fun x _=>by simp only[Function.comp,q16]
 |riter m since seen last bk=>exact h
 |gl g ty n c=>
  simp only[HO.ren,HO.ok] at h ⊢
  obtain⟨h1,cs,ty',fz,h2,h3,h4⟩:=h
  exact⟨h1,cs,ty',fz,h2,h3,fun i hi=>by rw[q16];exact h4 i hi⟩
theorem q36{f:Nat→Nat}{l:Nat}(o:HO):o.at (ρ.via f) l=(o.ren f).at ρ (f l):=by cases o<;>rfl
theorem JW.of(f:Nat→Nat){L':List (Nat×AV)}{H':List (Nat×HO)}{nx':Nat}(hL:covL f L' s.L)(hH:covH f H' s.H)(hbL:bdL nx' L')(hbH:bdH nx' H')(hi:injH f H'=true):JW X ⟨L',H',nx'⟩ s:=by
 intro M ρ a w h1 h2
 have lkH:∀ l o,lk H' l=some o→lk s.H (f l)=some (o.ren f):=fun l o h=>z02 hH l o (p4 h)
 refine⟨ρ.via f,⟨h1.below,h1.msub,h1.mnew,h1.mem,fun l o hl=>?_,fun l l' o o' b hl hl' hb hb'=>?_,fun l o b hl hb=>?_⟩,⟨h2.size,h2.defers,fun d v hd=>?_⟩⟩
 ·have e:=q9o hbH l o (p4 hl)
  exact⟨e.1,e.2,z1i (h1.own _ _ (lkH l o hl)).2.2⟩
 ·rw[q36] at hb hb'
  exact z0r hi l o l' o' (p4 hl) (p4 hl') (h1.apart _ _ _ _ b (lkH l o hl) (lkH l' o' hl') hb hb')
 ·rw[q36] at hb
  exact h1.notM _ _ b (lkH l o hl) hb
 ·have e:=z01 hL d v (p4 hd)
  exact⟨q9n hbL d v (p4 hd),q42 M ρ f v _ (h2.reg _ _ e).2⟩
theorem f8{c:Code}{s':S}(h:JW X s' s)(k:JC X c QA s'):JC X c QA s:=fun M ρ a w h1 h2=>by
 obtain⟨ρ',e1,e2⟩:=h M ρ a w h1 h2
 exact k M ρ' a w e1 e2
end Ox
namespace Ox
open Go Go.RowKit
variable {X:Ctx}{s:S}{M:Mem}{ρ:Env}{a:Act}{w w':World}{QA:Exit→S→Prop}{K:S→Prop}{all l:List Oper}{md:Bool}{o:Oper}
variable {L L':List (Nat×AV)}{H H':List (Nat×HO)}{nx nx' d:Nat}{op:Op}{ty:TypeId}{ps:String}{af:Array Edge}{cs:List Prop}{v:AV}{g:Bool}{gg:Nat×Bool}
def ltB(d n:Nat):Bool:=Nat.blt d n
theorem u0{d n:Nat}(h:ltB d n=true):d<n:=by simpa[ltB] using h
theorem JL.q1(hX:XOK X)(h:evb X.T op ⟨L,H,nx⟩=some (cs,v))(hd:ltB d X.n=true)(hc:allP cs)(k:JL X md all QA l ⟨(d,v)::L,H,nx⟩):JL X md all QA (⟨some d,op,ty,ps,af,none⟩::l) ⟨L,H,nx⟩:=
 JL.q hX rfl h (u0 hd) hc k
theorem JL.m1(hX:XOK X)(h:evm X.T X.ET op ⟨L,H,nx⟩=some (cs,v,⟨L',H',nx'⟩))(hd:ltB d X.n=true)(hc:allP cs)(k:JL X true all QA l ⟨(d,v)::L',H',nx'⟩):JL X true all QA (⟨some d,op,ty,ps,af,none⟩::l) ⟨L,H,nx⟩:=
 JL.m hX rfl h (u0 hd) hc k
theorem JL.m0(hX:XOK X)(h:evm X.T X.ET op ⟨L,H,nx⟩=some (cs,v,⟨L',H',nx'⟩))(hc:allP cs)(k:JL X true all QA l ⟨L',H',nx'⟩):JL X true all QA (⟨none,op,ty,ps,af,none⟩::l) ⟨L,H,nx⟩:=
 JL.m hX rfl h trivial hc k
theorem JL.g1(hX:XOK X)(hg:gOf all L (some gg)=some g)(h:evb X.T op ⟨L,H,nx⟩=some (cs,v))(hd:ltB d X.n=true)(hc:g=true→allP cs)(k:JL X md all QA l ⟨(d,.gd g v)::L,H,nx⟩):JL X md all QA (⟨some d,op,ty,ps,af,some gg⟩::l) ⟨L,H,nx⟩:=
 JL.g hX hg h (u0 hd) hc k
theorem JL.s1{f:FuncId}{args r:AV}(h:callA X.T op ⟨L,H,nx⟩=some (cs,f,args))(hf:Fn X.P f args (·=r))(hr:r.scal=true)(hrb:r.bd 0)(hd:ltB d X.n=true)(hc:allP cs)(k:JL X md all QA l ⟨(d,r)::L,H,nx⟩) :
  JL X md all QA (⟨some d,op,ty,ps,af,none⟩::l) ⟨L,H,nx⟩:=JL.callS rfl h hf hr hrb (u0 hd) hc k
theorem JL.s1g{f:FuncId}{args r:AV}(hg:gOf all L (some gg)=some g)(h:callA X.T op ⟨L,H,nx⟩=some (cs,f,args))(hf:g=true→Fn X.P f args (·=r))(hr:r.scal=true)(hrb:r.bd 0)(hd:ltB d X.n=true)(hc:g=true→allP cs)(k:JL X md all QA l ⟨(d,.gd g r)::L,H,nx⟩) :
  JL X md all QA (⟨some d,op,ty,ps,af,some gg⟩::l) ⟨L,H,nx⟩:=JL.callG hg h hf hr hrb (u0 hd) hc k
theorem JL.c1{f:FuncId}{args:AV}{R:AV→Prop}(h:callA X.T op ⟨L,[],nx⟩=some (cs,f,args))(hf:Fn X.P f args R)(hd:ltB d X.n=true)(hc:allP cs)(k:∀ r,R r→JL X true all QA l ⟨(d,r)::L,H,nx⟩) :
  JL X true all QA (⟨some d,op,ty,ps,af,none⟩::l) ⟨L,H,nx⟩:=JL.call rfl h hf (u0 hd) hc k
theorem QX.tr(h:QA .ret s):qThen K QA .ret s:=h
theorem bif_or(a b:Bool):(bif a then true else b)=(a||b):=by cases a<;>rfl
theorem bif_and(a b:Bool):(bif a then b else false)=(a&&b):=by cases a<;>rfl
theorem cdL:(∀ a b:Bool,(bif a then true else b)=(a||b))∧(∀ a b:Bool,(bif a then b else false)=(a&&b))∧(∀ a b:Bool,((a||b)=true)=(a=true∨b=true))∧(∀ a b:Bool,((a||b)=false)↔(a=false∧b=false))∧(∀ a b:Bool,((a&&b)=true)=(a=true∧b=true))∧(∀ a b:Bool,((a&&b)=false)=(a=false∨b=false))
  ∧ (∀ b:Bool,((!b)=true)=(b=false))∧(∀ b:Bool,((!b)=false)=(b=true))∧(∀ (p:Prop) [Decidable p],(decide p=true)=p)∧(∀ (p:Prop) [Decidable p],(decide p=false)↔¬ p)∧(∀ {α:Type} [BEq α] [LawfulBEq α] (a b:α),(a==b)=true↔a=b)∧(∀ {α:Type} [BEq α] [LawfulBEq α] (a b:α),(a != b)=true↔a≠b)
  ∧ (∀ {α:Type} [BEq α] [LawfulBEq α] (a b:α),(a != b)=false↔a=b)∧(∀ {α:Type} (a b:α),(a≠b)=¬ (a=b))∧(∀ {α:Type} [BEq α] [LawfulBEq α] (a b:α),(a==b)=false↔a≠b)∧(∀ b:Bool,(¬ b=true)=(b=false)):=
 ⟨bif_or,bif_and,Bool.or_eq_true,fun a b=>Bool.or_eq_false_iff,Bool.and_eq_true,fun a b=>by cases a<;>cases b<;>simp,fun b=>by cases b<;>simp,fun b=>by cases b<;>simp,fun p _=>decide_eq_true_eq,fun p _=>decide_eq_false_iff_not,fun a b=>beq_iff_eq,fun a b=>bne_iff_ne,fun a b=>bne_eq_false_iff_eq,fun a b=>rfl,fun a b=>beq_eq_false_iff_ne,fun b=>by cases b<;>simp⟩
def Ty.lens:(t:Ty)→t.den→Prop
 |.int _,_=>True|.bool,_=>True
 |.slice e,l=>List.length l≤9223372036854775807∧∀ i (h:i<List.length l),e.lens (List.get l ⟨i,h⟩)
 |.ptr e,x=>match x with|none=>True|some y=>e.lens y
 |.arr n e,l=>List.length l=n∧∀ i (h:i<List.length l),e.lens (List.get l ⟨i,h⟩)
 |.nil,_=>True
 |.cons a b,x=>a.lens x.1∧b.lens x.2
theorem Rep.lens{M:Mem}:∀ {t:Ty} {x:t.den} {cs:List Value},Rep M t x cs→t.lens x
 |.int _,_,_,h=>trivial
 |.bool,_,_,h=>trivial
 |.slice e,l,cs,h=>by
  simp only[Rep] at h
  obtain⟨ad,cap,h1,h2,h3,h3',h4⟩:=h
  have h3:cap≤9223372036854775807:=h3
  refine⟨by omega,fun i hi=>?_⟩
  rcases h4 with h4|⟨b,off,c,ty,fz,e1,e2,e3⟩
  ·omega
  ·exact Rep.lens (e3 i hi)
 |.ptr e,x,cs,h=>by
  cases x with
  |none=>trivial
  |some y=>simp only[Rep] at h;obtain⟨b,off,c,ty,fz,_,_,h⟩:=h;exact @Rep.lens M e y _ h
 |.arr n e,l,cs,h=>by simp only[Rep] at h;exact⟨h.1,fun i hi=>Rep.lens (h.2.2 i hi)⟩
 |.nil,_,cs,h=>trivial
 |.cons a b,x,cs,h=>by simp only[Rep] at h;obtain⟨c1,c2,_,h1,h2⟩:=h;exact⟨Rep.lens h1,Rep.lens h2⟩
theorem JC.lenOf{c:Code}(d:Nat){t:Ty}{x:t.den}(h:lk s.L d=some (.val t x))(k:t.lens x→JC X c QA s):JC X c QA s:=fun M ρ a w h1 h2=>by
 obtain⟨_,hv⟩:=h2.reg _ _ h
 simp only[AV.rv] at hv
 obtain⟨cs,e1,e5⟩:=hv
 exact k e1.lens M ρ a w h1 h2
end Ox
namespace Ox
open Go Go.RowKit
variable {X:Ctx}{s:S}{M:Mem}{ρ:Env}{a:Act}{w w':World}{QA:Exit→S→Prop}{K:S→Prop}{ops:List Oper}{ls:List Nat}{fuel:Nat}
section
variable {P:Program}{md:Region.Mode}{opsA:Array Oper}{Q:Exit→Act→World→Prop}
def YA(P:Program)(ops:Array Oper)(o:Oper)(v:Value)(a:Act):Prop:=
 (Region.wanted o (yielded ops a.tmps)=true∧∀ w,(execOp a.eval o).run P w=.ok (.value v) w) ∨
 (Region.wanted o (yielded ops a.tmps)=false∧v=undef)
theorem YA.op{i:Nat}{o:Oper}{v:Value}{a:Act}{w:World}(hi:opsA[i]?=some o)(hn:notDef o.op=true)(hy:YA X.P opsA o v a){K:Act→World→Prop}(h:K (a.put o.dst v) w):wpOpIn X.fn 0 X.P opsA Q i K a w:=by
 unfold wpOpIn
 simp only[hi]
 rcases hy with⟨hw,hv⟩|⟨hw,rfl⟩
 ·simp only[hw,if_true];exact v6 hn (hv w) h
 ·simp only[hw,Bool.false_eq_true,if_false];exact⟨fun f _=>q2p f,h⟩
theorem YA.keep{o oj:Oper}{v:Value}{a:Act}(hso:∀ cs b,o.op≠.select cs b)(h3:∀ d,oj.dst=some d→d∉o.looksAt opsA)(hy:YA P opsA o v a)(u:Value):YA P opsA o v (a.put oj.dst u):=by
 unfold YA at *
 rw[wanted_put o a oj.dst u h3,execOp_put o hso a oj.dst u h3]
 exact hy
theorem z21{oj:Oper}{a:Act}{d:Option Tmp}{v:Value}{K K':Act→World→Prop}(hQ:∀ e a w,e≠.normal→¬ Q e a w)(hne:∀ e,d=some e→oj.dst≠some e)
  (h:∀ (a':Act) u w,a'=a∨(∃ x,a'={a with defers:=x::a.defers})→K ((a'.put d v).put oj.dst u) w→K' (a'.put oj.dst u) w) {r:Result Next}
  (hh:oj.uponIn X.fn 0 X.P (a.put d v) K Q r):oj.uponIn X.fn 0 X.P a K' Q r:=by
 cases r with
 |ok n w'=>
  cases n with
  |value u=>simp only[Oper.uponIn] at hh ⊢;exact h a u _ (.inl rfl) hh
  |skip=>simp only[Oper.uponIn] at hh ⊢;exact h a _ _ (.inl rfl) hh
  |defer x=>
   simp only[Oper.uponIn] at hh ⊢
   rw[Act.put_defers] at hh
   exact h _ _ _ (.inr ⟨x,rfl⟩) hh
  |enter f args=>
   simp only[Oper.uponIn] at hh ⊢
   refine⟨hh.1,CallsIn.mono hh.2 fun e w'' he=>?_⟩
   cases e with
   |returned u=>exact h a u _ (.inl rfl) he
   |panicked c=>exact absurd he (hQ _ _ _ (by simp))
   |outgrown=>exact he
  |row r args=>
   simp only[Oper.uponIn] at hh ⊢
   exact⟨hh.1,RowsIn.mono hh.2 (fun _ _ he=>h a _ _ (.inl rfl) he)⟩
  |round l f tmps assign body=>
   simp only[Oper.uponIn] at hh ⊢
   refine⟨hh.1,RoundIn.mono hh.2 fun e w'' he=>?_⟩
   cases e with
   |returned u=>exact h a u _ (.inl rfl) he
   |panicked c=>exact absurd he (hQ _ _ _ (by simp))
   |outgrown=>exact he
  |_=>simp only[Oper.uponIn] at hh
 |halt x w'=>
  cases x with
  |panic v=>simp only[Oper.uponIn] at hh;exact absurd hh (hQ _ _ _ (by simp))
  |_=>simp only[Oper.uponIn] at hh
theorem z59{j:Nat}{oi oj:Oper}{v:Value}{a:Act}{w:World}{K:Act→World→Prop}(hQ:∀ e a w,e≠.normal→¬ Q e a w)(hj:opsA[j]?=some oj)
  (h1:∀ d,oi.dst=some d→d∉oj.looksAt opsA) (h2:∀ d,oi.dst=some d→oj.dst≠some d) (hsj:∀ cs b,oj.op≠.select cs b) (hn:notDef oj.op=true) (h:wpOpIn X.fn 0 X.P opsA Q j K (a.put oi.dst v) w) :
  wpOpIn X.fn 0 X.P opsA Q j (fun a' w'=>K (a'.put oi.dst v) w') a w:=by
 unfold wpOpIn at *
 simp only[hj] at *
 rw[wanted_put oj a oi.dst v h1] at h
 split
 ·rename_i hw
  simp only[hw,if_true] at h
  refine⟨fun f _=>q2p f,?_⟩
  have h:=h.2
  rw[q0a hn,execOp_put oj hsj a oi.dst v h1] at h
  rw[q0a hn]
  refine z21 hQ h2 (fun a' u w'' _ hk=>?_) h
  rw[← Act.put_comm a' v u h2];exact hk
 ·rename_i hw
  simp only[hw] at h
  refine⟨fun f _=>q2p f,?_⟩
  show K _ _
  rw[← Act.put_comm a v undef h2];exact h.2
theorem wpOp_put{j:Nat}{oi oj:Oper}{v:Value}{a:Act}{w:World}{K:Act→World→Prop}(hQ:∀ e a w,e≠.normal→¬ Q e a w)(hj:opsA[j]?=some oj)(hap:oi.apart opsA oj=true)
  (hsi:∀ cs b,oi.op≠.select cs b) (hsj:∀ cs b,oj.op≠.select cs b) (hn:notDef oj.op=true) (hy:YA X.P opsA oi v a) (h:wpOpIn X.fn 0 X.P opsA Q j K (a.put oi.dst v) w) :
  wpOpIn X.fn 0 X.P opsA Q j (fun a' w'=>YA X.P opsA oi v a'∧K (a'.put oi.dst v) w') a w:=by
 obtain⟨h1,h2,h3⟩:=Oper.apart_spec hap
 have hyd:∀ (a':Act),a'=a∨(∃ x,a'={a with defers:=x::a.defers})→YA X.P opsA oi v a':=fun a' e=>by
  rcases e with rfl|⟨x,rfl⟩
  ·exact hy
  ·exact hy
 unfold wpOpIn at *
 simp only[hj] at *
 rw[wanted_put oj a oi.dst v h1] at h
 split
 ·rename_i hw
  simp only[hw,if_true] at h
  refine⟨fun f _=>q2p f,?_⟩
  have h:=h.2
  rw[q0a hn,execOp_put oj hsj a oi.dst v h1] at h
  rw[q0a hn]
  refine z21 hQ h2 (fun a' u w'' e hk=>⟨(hyd a' e).keep hsi h3 u,?_⟩) h
  rw[← Act.put_comm a' v u h2];exact hk
 ·rename_i hw
  simp only[hw] at h
  exact⟨fun f _=>q2p f,hy.keep hsi h3 _,by rw[← Act.put_comm a v undef h2];exact h.2⟩
theorem q4z{i:Nat}{oi:Oper}{v:Value}(hQ:∀ e a w,e≠.normal→¬ Q e a w)(hi:opsA[i]?=some oi)(hsel:∀ (j:Nat) (o:Oper) cs b,opsA[j]?=some o→o.op≠.select cs b)(hnd:∀ (j:Nat) o,opsA[j]?=some o→notDef o.op=true) :
  ∀ (fuel:Nat) (listed:Array Bool) (a:Act) (w:World),
   (∀ j oj,opsA[j]?=some oj→j≠i→listed.getD j true=false→(∀ e∈oj.after,Region.binds md e=true→e.on≠i)→oi.apart opsA oj=true) →
   i∈Region.ready md opsA listed→YA X.P opsA oi v a →
   wpAnyIn X.fn 0 X.P md opsA Q fuel (listed.setIfInBounds i true) (a.put oi.dst v) w→wpAnyIn X.fn 0 X.P md opsA Q (fuel+1) listed a w:=by
 intro fuel
 induction fuel with
 |zero=>
  intro listed a w _ hr hy H
  refine⟨fun h=>(by rw[h] at hr;cases hr),fun j hj=>?_⟩
  by_cases hji:j=i
  ·subst hji;exact hy.op hi (hnd _ _ hi) H
  ·have:=ready_mono hj hji
   rw[H.1] at this
   cases this
 |succ fuel ih=>
  intro listed a w hfree hr hy H
  refine⟨fun h=>(by rw[h] at hr;cases hr),fun j hj=>?_⟩
  by_cases hji:j=i
  ·subst hji;exact hy.op hi (hnd _ _ hi) H
  ·have h1:=H.2 j (ready_mono hj hji)
   obtain⟨hjun,oj,hoj,hall⟩:=mem_ready.1 hj
   have hnot:∀ e∈oj.after,Region.binds md e=true→e.on≠i:=fun e he hb heq=>by
    have h1:=hall e he hb
    have h0:=(mem_ready.1 hr).1
    rw[heq] at h1
    rcases Nat.lt_or_ge i listed.size with h'|h'
    ·simp[h'] at h0 h1;rw[h0] at h1;cases h1
    ·simp[Array.getElem?_eq_none h'] at h1
   have h2:=wpOp_put hQ hoj (hfree j oj hoj hji hjun hnot) (fun cs b=>hsel i oi cs b hi) (fun cs b=>hsel j oj cs b hoj) (hnd _ _ hoj) hy h1
   have hfree':∀ k ok,opsA[k]?=some ok→k≠i→(listed.setIfInBounds j true).getD k true=false →
     (∀ e∈ok.after,Region.binds md e=true→e.on≠i)→oi.apart opsA ok=true:=fun k ok hk hki hun hno=>by
    refine hfree k ok hk hki ?_ hno
    by_cases hjk:j=k
    ·subst hjk;exact hjun
    ·rw[getD_set_ne true hjk] at hun;exact hun
   refine wpOpIn_mono (fun a' w' h3=>ih (listed.setIfInBounds j true) a' w' hfree' (ready_mono hr (Ne.symm hji)) h3.1 ?_) h2
   rw[Array.setIfInBounds_comm _ _ hji]
   exact h3.2
end
def Lst(n:Nat)(ls:List Nat)(l:Array Bool):Prop:=l.size=n∧∀ j,j<n→l[j]?=some (ls.contains j)
theorem Lst.getT{n j:Nat}{l:Array Bool}(h:Lst n ls l)(hj:j<n)(d:Bool):l.getD j d=ls.contains j:=by
 have:=h.2 j hj
 simp[Array.getD_eq_getD_getElem?,this]
def edgesL(n:Nat)(ls:List Nat):List Edge→Bool
 |[]=>true
 |e::r=>(!Region.binds .any e||(Nat.blt e.on n&&ls.contains e.on))&&edgesL n ls r
def rdyL(n:Nat)(ls:List Nat):Nat→List Oper→List (Nat×Oper)
 |_,[]=>[]
 |i,o::r=>match ls.contains i||!edgesL n ls o.after.toList with
  |true=>rdyL n ls (i+1) r
  |false=>(i,o)::rdyL n ls (i+1) r
theorem u9{n:Nat}{es:List Edge}:edgesL n ls es=true↔∀ e∈es,Region.binds .any e=true→e.on<n∧ls.contains e.on=true:=by
 induction es with
 |nil=>simp[edgesL]
 |cons e r ih=>
  simp only[edgesL,Bool.and_eq_true,Bool.or_eq_true,Bool.not_eq_true',ih,List.mem_cons,forall_eq_or_imp,Nat.blt_eq]
  refine⟨fun⟨h1,h2⟩=>⟨fun hb=>?_,h2⟩,fun⟨h1,h2⟩=>⟨?_,h2⟩⟩
  ·rcases h1 with h1|h1
   ·rw[h1] at hb;cases hb
   ·exact h1
  ·cases hb:Region.binds .any e with
   |false=>exact .inl rfl
   |true=>exact .inr (h1 hb)
theorem q0s{n:Nat}:∀ {r:List Oper} {k i:Nat} {o:Oper},(i,o)∈rdyL n ls k r↔k≤i∧r[i-k]?=some o∧ls.contains i=false∧edgesL n ls o.after.toList=true
 |[],k,i,o=>by simp[rdyL]
 |x::r,k,i,o=>by
  have ih:=@q0s n r (k+1) i o
  have step:(k≤i∧(x::r)[i-k]?=some o∧ls.contains i=false∧edgesL n ls o.after.toList=true) ↔
    ((i=k∧x=o∧ls.contains i=false∧edgesL n ls o.after.toList=true)∨(k+1≤i∧r[i-(k+1)]?=some o∧ls.contains i=false∧edgesL n ls o.after.toList=true)):=by
   rcases Nat.lt_trichotomy i k with h|h|h
   ·constructor
    ·intro e;omega
    ·rintro(e|e)<;>omega
   ·subst h
    rw[Nat.sub_self,List.getElem?_cons_zero]
    constructor
    ·rintro⟨_,e,f⟩;injection e with e;exact .inl ⟨rfl,e,f⟩
    ·rintro(⟨_,e,f⟩|e)
     ·exact⟨Nat.le_refl _,by rw[e],f⟩
     ·omega
   ·have e:i-k=(i-(k+1))+1:=by omega
    rw[e,List.getElem?_cons_succ]
    constructor
    ·intro e;exact .inr ⟨by omega,e.2⟩
    ·rintro(e|e)
     ·omega
     ·exact⟨by omega,e.2⟩
  rw[step]
  simp only[rdyL]
  split
  ·rename_i hb
   rw[ih]
   refine⟨fun h=>.inr h,fun h=>?_⟩
   rcases h with⟨rfl,rfl,e1,e2⟩|h
   ·simp only[Bool.or_eq_true,Bool.not_eq_true'] at hb
    rw[e1,e2] at hb;simp at hb
   ·exact h
  ·rename_i hb
   simp only[Bool.or_eq_false_iff,Bool.not_eq_false'] at hb
   rw[List.mem_cons,ih]
   constructor
   ·rintro(e|e)
    ·injection e with e1 e2;subst e1 e2;exact .inl ⟨rfl,rfl,hb⟩
    ·exact .inr e
   ·rintro(⟨rfl,rfl,_⟩|e)
    ·exact .inl rfl
    ·exact .inr e
theorem q4e{l:Array Bool}(h:Lst ops.length ls l)(i:Nat):i∈Region.ready .any ops.toArray l↔∃ o,(i,o)∈rdyL ops.length ls 0 ops:=by
 rw[mem_ready]
 constructor
 ·rintro⟨h1,o,h2,h3⟩
  have hi:i<ops.length:=by have:=(Array.getElem?_eq_some_iff.1 h2).1;simpa using this
  refine⟨o,q0s.2 ⟨by omega,by simpa using h2,by rw[h.getT hi] at h1;exact h1,u9.2 fun e he hb=>?_⟩⟩
  have h4:=h3 e (by simpa using he) hb
  rcases Nat.lt_or_ge e.on ops.length with hl|hl
  ·rw[h.getT hl] at h4;exact⟨hl,h4⟩
  ·have:l.size≤e.on:=by rw[h.1];exact hl
   simp[Array.getD_eq_getD_getElem?,Array.getElem?_eq_none this] at h4
 ·rintro⟨o,ho⟩
  obtain⟨_,h2,h3,h4⟩:=q0s.1 ho
  have h2:ops[i]?=some o:=by simpa using h2
  have hi:i<ops.length:=(List.getElem?_eq_some_iff.1 h2).1
  refine⟨by rw[h.getT hi];exact h3,o,by simpa using h2,fun e he hb=>?_⟩
  obtain⟨e1,e2⟩:=u9.1 h4 e (by simpa using he) hb
  rw[h.getT e1];exact e2
def qN(K:S→Prop):Exit→S→Prop:=qThen K (fun _ _=>False)
def JAny(X:Ctx)(ops:List Oper)(K:S→Prop)(fuel:Nat)(ls:List Nat)(s:S):Prop:=
 ∀ M ρ a w l,Lst ops.length ls l→SAT X M ρ s w→REG X M ρ s a→wpAnyIn X.fn 0 X.P .any ops.toArray (conc X (qN K)) fuel l a w
theorem q9i{e:Exit}(he:e≠.normal):¬ conc X (qN K) e a w:=by
 rintro⟨M,ρ,s,_,_,h⟩
 cases e<;>simp[qN,qThen] at h he
theorem upon_to{K1 K2:Act→World→Prop}{Q1 Q2:Exit→Act→World→Prop}{o:Oper}{r:Result Next}(hQ:∀ e a w,e≠.normal→¬ Q1 e a w)(h:∀ a w,K1 a w→K2 a w)(hh:o.uponIn X.fn 0 X.P a K1 Q1 r):o.uponIn X.fn 0 X.P a K2 Q2 r:=by
 cases r with
 |ok n w'=>
  cases n<;>simp only[Oper.uponIn] at hh ⊢ <;>
   first
    |exact h _ _ hh
    |exact⟨hh.1,CallsIn.mono hh.2 (fun e w'' he=>by
      cases e with
      |returned v=>exact h _ _ he
      |panicked c=>exact absurd he (hQ _ _ _ (by simp))
      |outgrown=>obtain⟨a0,w0,h0⟩:=he;exact absurd h0 (hQ _ _ _ (by simp)))⟩
    |exact⟨hh.1,RoundIn.mono hh.2 (fun e w'' he=>by
      cases e with
      |returned v=>exact h _ _ he
      |panicked c=>exact absurd he (hQ _ _ _ (by simp))
      |outgrown=>obtain⟨a0,w0,h0⟩:=he;exact absurd h0 (hQ _ _ _ (by simp)))⟩
    |exact⟨hh.1,RowsIn.mono hh.2 (fun _ _ he=>h _ _ he)⟩
 |halt x w'=>
  cases x<;>simp only[Oper.uponIn] at hh ⊢<;>exact absurd hh (hQ _ _ _ (by simp))
theorem q5v{K1:S→Prop}{i:Nat}{o:Oper}(ho:ops[i]?=some o)(h:wpListIn X.fn 0 X.P ops.toArray (conc X (qN K1)) [o] a w) :
  wpOpIn X.fn 0 X.P ops.toArray (conc X (qN K)) i (fun b w'=>∃ M ρ s,SAT X M ρ s w'∧REG X M ρ s b∧K1 s) a w:=by
 unfold wpOpIn
 simp only[List.getElem?_toArray,ho]
 unfold wpListIn at h
 split
 ·rename_i hw
  simp only[hw,if_true] at h
  exact⟨h.1,upon_to (fun _ _ _ h=>q9i h) (fun a w hk=>hk) h.2⟩
 ·rename_i hw
  simp only[hw] at h
  exact⟨h.1,h.2⟩
theorem JAny.done(hr:rdyL ops.length ls 0 ops=[])(h:K s):JAny X ops K fuel ls s:=by
 intro M ρ a w l hl h1 h2
 have h0:Region.ready .any ops.toArray l=[]:=by
  rw[List.eq_nil_iff_forall_not_mem]
  intro i hi
  obtain⟨o,ho⟩:=(q4e hl i).1 hi
  rw[hr] at ho;cases ho
 cases fuel with
 |zero=>exact⟨h0,M,ρ,s,h1,h2,h⟩
 |succ n=>exact⟨fun _=>⟨M,ρ,s,h1,h2,h⟩,fun i hi=>by rw[h0] at hi;cases hi⟩
def BrA(X:Ctx)(ops:List Oper)(K:S→Prop)(fuel:Nat)(ls:List Nat)(s:S):List (Nat×Oper)→Prop
 |[]=>True
 |p::r=>JL X true ops (qN fun s'=>JAny X ops K fuel (p.1::ls) s') [p.2] s∧BrA X ops K fuel ls s r
theorem BrA.mem{r:List (Nat×Oper)}(h:BrA X ops K fuel ls s r){p:Nat×Oper}(hp:p∈r):JL X true ops (qN fun s'=>JAny X ops K fuel (p.1::ls) s') [p.2] s:=by
 induction r with
 |nil=>cases hp
 |cons q r ih=>
  rcases List.mem_cons.1 hp with e|e
  ·subst e;exact h.1
  ·exact ih h.2 e
theorem BrA.one{p:Nat×Oper}{r:List (Nat×Oper)}(h:JL X true ops (qN fun s'=>JAny X ops K fuel (p.1::ls) s') [p.2] s)(h':BrA X ops K fuel ls s r):BrA X ops K fuel ls s (p::r):=⟨h,h'⟩
theorem BrA.nil:BrA X ops K fuel ls s []:=trivial
def freeL(n:Nat)(ops:List Oper)(ls:List Nat)(i:Nat)(oi:Oper):Nat→List Oper→Bool
 |_,[]=>true
 |j,oj::r=>(j==i||ls.contains j||oj.after.toList.any (fun e=>Region.binds .any e&&e.on==i)||oi.apart ops.toArray oj)&&freeL n ops ls i oi (j+1) r
theorem q4o{n i:Nat}{oi:Oper}:∀ {r:List Oper} {k:Nat},freeL n ops ls i oi k r=true→∀ j oj,r[j]?=some oj→k+j≠i→ls.contains (k+j)=false→(∀ e∈oj.after,Region.binds .any e=true→e.on≠i)→oi.apart ops.toArray oj=true
 |[],_,_,j,oj,h,_,_,_=>by simp at h
 |x::r,k,hf,j,oj,h,hne,hc,he=>by
  simp only[freeL,Bool.and_eq_true,Bool.or_eq_true,beq_iff_eq] at hf
  cases j with
  |zero=>
   simp at h;subst h
   rcases hf.1 with((h1|h1)|h1)|h1
   ·exact absurd h1 hne
   ·rw[Nat.add_zero] at hc;rw[h1] at hc;cases hc
   ·obtain⟨e,he1,he2⟩:=List.any_eq_true.1 h1
    simp only[Bool.and_eq_true,beq_iff_eq] at he2
    exact absurd he2.2 (he e (by simpa using he1) he2.1)
   ·exact h1
  |succ j=>
   rw[List.getElem?_cons_succ] at h
   exact q4o hf.2 j oj h (by omega) (by rw[show k+1+j=k+(j+1) by omega];exact hc) he
theorem q2n{id:Nat}(hX:XOK X)(K:S→Prop)(h:JAny X ops K ops.length [] s)(hK:∀ s,K s→QA .normal s):JC X (.region id ⟨ops⟩ true) QA s:=by
 have h':JC X (.region id ⟨ops⟩ true) (qN K) s:=by
  intro M ρ a w h1 h2
  refine wpIn_region_any hX.mixed ?_
  have hl:Lst ops.length [] (Array.replicate ops.length false):=⟨by simp,fun j hj=>by simp[hj]⟩
  exact h M ρ a _ _ hl h1.drew h2
 exact h'.mono fun e s h=>by
  cases e with
  |normal=>exact hK s h
  |_=>exact False.elim h
end Ox
namespace Ox
open Go Go.RowKit
variable {X:Ctx}{s:S}{M:Mem}{ρ:Env}{a:Act}{w w':World}{QA:Exit→S→Prop}{all l:List Oper}{md:Bool}{F:List Nat}
def fzL(HF:List (Nat×HO))(F:List Nat)(x:Leaf):Option (List Prop×AV):=
 match x with
 |.nils|.nilp=>some ([],.lf x)
 |.osl l=>match F.contains l with
  |true=>(match lk HF l with
   |some (.sl _ e _)=>(toK HF 8 (.slice e) (.lf x) fun c y=>some (c,y)).map fun r=>(r.1,.val (.slice e) r.2)
   |_=>none)
  |false=>some ([],.lf x)
 |.ovw l _ _ _=>match F.contains l with
  |true=>(match lk HF l with
   |some (.sl _ e _)=>(toK HF 8 (.slice e) (.lf x) fun c y=>some (c,y)).map fun r=>(r.1,.val (.slice e) r.2)
   |_=>none)
  |false=>some ([],.lf x)
 |.optr l p=>match F.contains l with
  |true=>(match lk HF l with
   |some (.cell t0 _)=>(match t0.sub p with
    |some t=>(toK HF 8 (.ptr t) (.lf x) fun c y=>some (c,y)).map fun r=>(r.1,.val (.ptr t) r.2)
    |none=>none)
   |_=>none)
  |false=>some ([],.lf x)
 |.oelt l _ _|.oarr l _ _ _|.mp l|.itr l|.yld l=>match F.contains l with
  |true=>none
  |false=>some ([],.lf x)
def fzV(HF:List (Nat×HO))(F:List Nat):AV→Option (List Prop×AV)
 |.lf x=>fzL HF F x
 |.mix a b=>(fzV HF F a).bind fun a=>(fzV HF F b).map fun b=>(a.1++b.1,.mix a.2 b.2)
 |.acons a b=>(fzV HF F a).bind fun a=>(fzV HF F b).map fun b=>(a.1++b.1,.acons a.2 b.2)
 |.fn f a b=>(fzV HF F a).bind fun a=>(fzV HF F b).map fun b=>(a.1++b.1,.fn f a.2 b.2)
 |.tup a=>(fzV HF F a).map fun a=>(a.1,.tup a.2)
 |.gd g a=>(fzV HF F a).map fun a=>(a.1,.gd g a.2)
 |.pfn a=>(fzV HF F a).map fun a=>(a.1,.pfn a.2)
 |.raw _=>none
 |v=>some ([],v)
def fzR(HF:List (Nat×HO))(F:List Nat)(L:List (Nat×AV)):List Nat→Option (List Prop×List (Nat×AV))
 |[]=>some ([],[])
 |d::r=>match lk L d with
  |some v=>(fzV HF F v).bind fun v=>(fzR HF F L r).map fun r=>(v.1++r.1,(d,v.2)::r.2)
  |none=>none
def fzH(HF:List (Nat×HO))(F:List Nat):List (Nat×HO)→Option (List Prop×List (Nat×HO))
 |[]=>some ([],[])
 |(l,o)::r=>match F.contains l with
  |true=>fzH HF F r
  |false=>match o with
   |.cell t a=>(fzV HF F a).bind fun a=>if confB t a.2 then(fzH HF F r).map fun r=>(a.1++r.1,(l,.cell t a.2)::r.2) else none
   |.sl eid e xs=>(fzH HF F r).map fun r=>(r.1,(l,.sl eid e xs)::r.2)
   |.map kt vt es clk=>(fzH HF F r).map fun r=>(r.1,(l,.map kt vt es clk)::r.2)
   |.iter m since seen last=>(fzH HF F r).map fun r=>(r.1,(l,.iter m since seen last)::r.2)
   |.cus Q=>(fzH HF F r).map fun r=>(r.1,(l,.cus Q)::r.2)
   |.loop st pe ps az bd n L=>(fzR HF F L (L.map (·.1))).bind fun q=>(fzH HF F r).map fun r=>(q.1++r.1,(l,.loop st pe ps az bd n q.2)::r.2)
   |.fr i L=>(fzR HF F L (L.map (·.1))).bind fun q=>(fzH HF F r).map fun r=>(q.1++r.1,(l,.fr i q.2)::r.2)
   |.raw ..|.rmap ..|.riter ..|.gl ..=>none
def pickF(H:List (Nat×HO))(F:List Nat):List (Nat×HO):=H.filter fun p=>F.contains p.1
def frz(F K:List Nat)(s:S):Option (List Prop×S):=
 (fzR (pickF s.H F) F s.L K).bind fun l=>(fzH (pickF s.H F) F s.H).map fun h=>(l.1++h.1,⟨l.2,h.2,s.nx⟩)
theorem q5j{m:Nat}:∀ {H:List (Nat×HO)},lk (pickF H F) m=if F.contains m=true then lk H m else none
 |[]=>by simp only[pickF,List.filter_nil,lk,ite_self]
 |(k,v)::H=>by
  have ih:=@q5j m H
  unfold pickF at ih ⊢
  rw[List.filter_cons]
  by_cases hk:F.contains k=true
  ·rw[if_pos hk]
   simp only[lk,ih]
   by_cases h2:k=m
   ·subst h2;rw[if_pos rfl,if_pos rfl,if_pos hk]
   ·rw[if_neg h2,if_neg h2]
  ·rw[if_neg hk,ih]
   simp only[lk]
   by_cases h2:k=m
   ·subst h2;rw[if_neg hk,if_neg hk]
   ·rw[if_neg h2]
noncomputable def frzM(F:List Nat)(s:S)(M:Mem)(ρ:Env)(w:World):Mem:=fun b=>
 open Classical in if ∃ l o,lk (pickF s.H F) l=some o∧o.at ρ l=some b then w.heap[b]? else M b
theorem q83(h1:SAT X M ρ s w):∀ b o,M b=some o→frzM F s M ρ w b=some o:=fun b o hb=>by
 unfold frzM
 split
 ·rename_i h
  obtain⟨l,o',h2,h3⟩:=h
  rw[q5j] at h2
  split at h2
  ·rw[h1.notM l o' b h2 h3] at hb;cases hb
  ·cases h2
 ·exact hb
theorem q6q(h1:SAT X M ρ s w):M.le (frzM F s M ρ w):=fun b _ _ _ hb=>q83 h1 b _ hb
theorem z9f(h1:SAT X M ρ s w):SAT X M ρ ⟨s.L,pickF s.H F,s.nx⟩ w:=by
 have hs:∀ l o,lk (pickF s.H F) l=some o→lk s.H l=some o:=fun l o h=>by
  rw[q5j] at h
  split at h
  ·exact h
  ·cases h
 exact⟨h1.below,h1.msub,h1.mnew,h1.mem,fun l o h=>h1.own l o (hs l o h),fun l l' o o' b h h'=>h1.apart l l' o o' b (hs _ _ h) (hs _ _ h'),fun l o b h=>h1.notM l o b (hs _ _ h)⟩
theorem frz_seen(h1:SAT X M ρ s w):Seen ρ ⟨s.L,pickF s.H F,s.nx⟩ M (frzM F s M ρ w) w:=
 ⟨q6q h1,fun l o b h hb=>by unfold frzM;rw[if_pos ⟨l,o,h,hb⟩]⟩
theorem z9e(h1:SAT X M ρ s w){x:Leaf}{r:List Prop×AV}(h:fzL (pickF s.H F) F x=some r)(hc:allP r.1)(hb:x.bd s.nx) :
  r.2.bd s.nx∧(∀ u,(AV.lf x).rv M ρ u→r.2.rv (frzM F s M ρ w) ρ u)∧(∀ cs,(AV.lf x).rc M ρ cs→r.2.rc (frzM F s M ρ w) ρ cs):=by
 have keep:∀ {x:Leaf},x.bd s.nx→(AV.lf x).bd s.nx∧(∀ u,(AV.lf x).rv M ρ u→(AV.lf x).rv (frzM F s M ρ w) ρ u)∧(∀ cs,(AV.lf x).rc M ρ cs→(AV.lf x).rc (frzM F s M ρ w) ρ cs):=fun hb=>
  ⟨hb,fun u hu=>w5 (q6q h1) (Env.upTo.refl ρ s.nx) (a:=.lf _) hb hu,fun cs hu=>u5 (q6q h1) (Env.upTo.refl ρ s.nx) (a:=.lf _) hb hu⟩
 have data:∀ {t:Ty} {v:AV} {q:List Prop×AV},((toK (pickF s.H F) 8 t v fun c y=>some (c,y)).map fun r=>(r.1,AV.val t r.2))=some q→allP q.1 →
   q.2.bd s.nx∧(∀ u,v.rv M ρ u→q.2.rv (frzM F s M ρ w) ρ u)∧(∀ cs,v.rc M ρ cs→q.2.rc (frzM F s M ρ w) ρ cs):=fun {t v q} hq hc=>by
  simp only[Option.map_eq_some_iff] at hq
  obtain⟨p,hp,rfl⟩:=hq
  obtain⟨cs,y,hk,hy⟩:=q00 (z9f (F:=F) h1) (frz_seen h1) 8 hp
  injection hk with hk;subst hk
  have hy:=hy hc
  refine⟨trivial,fun u hu=>?_,fun cs hu=>?_⟩
  ·simp only[AV.rv];exact hy.1 u hu
  ·simp only[AV.rc];exact hy.2 cs hu
 unfold fzL at h
 split at h
 ·injection h with h;subst h;exact keep hb
 ·injection h with h;subst h;exact keep hb
 ·split at h
  ·split at h
   ·exact data h hc
   ·cases h
  ·injection h with h;subst h;exact keep hb
 ·split at h
  ·split at h
   ·exact data h hc
   ·cases h
  ·injection h with h;subst h;exact keep hb
 ·split at h
  ·split at h
   ·split at h
    ·exact data h hc
    ·cases h
   ·cases h
  ·injection h with h;subst h;exact keep hb
 ·split at h
  ·cases h
  ·injection h with h;subst h;exact keep hb
 ·split at h
  ·cases h
  ·injection h with h;subst h;exact keep hb
 ·split at h
  ·cases h
  ·injection h with h;subst h;exact keep hb
 ·split at h
  ·cases h
  ·injection h with h;subst h;exact keep hb
 ·split at h
  ·cases h
  ·injection h with h;subst h;exact keep hb
theorem q08(h1:SAT X M ρ s w):∀ {v:AV} {r:List Prop×AV},fzV (pickF s.H F) F v=some r→allP r.1→v.bd s.nx →
  r.2.bd s.nx∧(∀ u,v.rv M ρ u→r.2.rv (frzM F s M ρ w) ρ u)∧(∀ us,v.rvs M ρ us→r.2.rvs (frzM F s M ρ w) ρ us)∧(∀ cs,v.rc M ρ cs→r.2.rc (frzM F s M ρ w) ρ cs):=by
 intro v
 have hle:=q6q (F:=F) h1
 have hr:=Env.upTo.refl ρ s.nx
 induction v with
 |lf x=>
  intro r h hc hb
  simp only[fzV] at h
  obtain⟨e1,e2,e3⟩:=z9e h1 h hc hb
  exact⟨e1,e2,fun us hu=>by simp only[AV.rvs] at hu,e3⟩
 |mix x y ihx ihy=>
  intro r h hc hb
  simp only[fzV,Option.bind_eq_some_iff,Option.map_eq_some_iff] at h
  obtain⟨p,hp,q,hq,rfl⟩:=h
  rw[q9] at hc
  obtain⟨a1,a2,a3,a4⟩:=ihx hp hc.1 hb.1
  obtain⟨b1,b2,b3,b4⟩:=ihy hq hc.2 hb.2
  refine⟨⟨a1,b1⟩,fun u hu=>?_,fun us hu=>by simp only[AV.rvs] at hu,fun cs hu=>?_⟩
  ·simp only[AV.rv] at hu ⊢
   obtain⟨c1,c2,k1,k2,k3⟩:=hu
   exact⟨c1,c2,a4 _ k1,b4 _ k2,k3⟩
  ·simp only[AV.rc] at hu ⊢
   obtain⟨c1,c2,k1,k2,k3⟩:=hu
   exact⟨c1,c2,a4 _ k1,b4 _ k2,k3⟩
 |acons x y ihx ihy=>
  intro r h hc hb
  simp only[fzV,Option.bind_eq_some_iff,Option.map_eq_some_iff] at h
  obtain⟨p,hp,q,hq,rfl⟩:=h
  rw[q9] at hc
  obtain⟨a1,a2,a3,a4⟩:=ihx hp hc.1 hb.1
  obtain⟨b1,b2,b3,b4⟩:=ihy hq hc.2 hb.2
  refine⟨⟨a1,b1⟩,fun u hu=>by simp only[AV.rv] at hu,fun us hu=>?_,fun cs hu=>by simp only[AV.rc] at hu⟩
  simp only[AV.rvs] at hu ⊢
  obtain⟨v,r',k1,k2,k3⟩:=hu
  exact⟨v,r',a2 _ k1,b3 _ k2,k3⟩
 |fn f x y ihx ihy=>
  intro r h hc hb
  simp only[fzV,Option.bind_eq_some_iff,Option.map_eq_some_iff] at h
  obtain⟨p,hp,q,hq,rfl⟩:=h
  rw[q9] at hc
  obtain⟨a1,a2,a3,a4⟩:=ihx hp hc.1 hb.1
  obtain⟨b1,b2,b3,b4⟩:=ihy hq hc.2 hb.2
  refine⟨⟨a1,b1⟩,fun u hu=>?_,fun us hu=>by simp only[AV.rvs] at hu,fun cs hu=>?_⟩
  ·simp only[AV.rv] at hu ⊢
   obtain⟨fs,ks,k1,k2,k3⟩:=hu
   exact⟨fs,ks,a3 _ k1,b3 _ k2,k3⟩
  ·simp only[AV.rc] at hu ⊢
   obtain⟨fs,ks,k1,k2,k3⟩:=hu
   exact⟨fs,ks,a3 _ k1,b3 _ k2,k3⟩
 |tup x ihx=>
  intro r h hc hb
  simp only[fzV,Option.map_eq_some_iff] at h
  obtain⟨p,hp,rfl⟩:=h
  obtain⟨a1,a2,a3,a4⟩:=ihx hp hc hb
  refine⟨a1,fun u hu=>?_,fun us hu=>by simp only[AV.rvs] at hu,fun cs hu=>by simp only[AV.rc] at hu⟩
  simp only[AV.rv] at hu ⊢
  obtain⟨vs,k1,k2⟩:=hu
  exact⟨vs,a3 _ k1,k2⟩
 |raw x=>intro r h hc hb;simp[fzV] at h
 |pfn x ihx=>
  intro r h hc hb
  simp only[fzV,Option.map_eq_some_iff] at h
  obtain⟨p,hp,rfl⟩:=h
  obtain⟨a1,a2,a3,a4⟩:=ihx hp hc hb
  refine⟨a1,fun u hu=>?_,fun us hu=>by simp only[AV.rvs] at hu,fun cs hu=>by simp only[AV.rc] at hu⟩
  simp only[AV.rv] at hu ⊢
  obtain⟨b,fv,ty,fz,k1,k2,k3⟩:=hu
  exact⟨b,fv,ty,fz,k1,hle _ _ _ _ k2,a2 _ k3⟩
 |gd g x ihx=>
  intro r h hc hb
  simp only[fzV,Option.map_eq_some_iff] at h
  obtain⟨p,hp,rfl⟩:=h
  refine⟨fun hg=>(ihx hp hc (hb hg)).1,fun u hu=>?_,fun us hu=>by simp only[AV.rvs] at hu,fun cs hu=>by simp only[AV.rc] at hu⟩
  simp only[AV.rv] at hu ⊢
  cases g with
  |true=>exact⟨fun hg=>(ihx hp hc (hb rfl)).2.1 _ (hu.1 hg),fun h=>by cases h⟩
  |false=>exact⟨fun h=>(by cases h),hu.2⟩
 |val t x=>
  intro r h hc hb
  simp only[fzV,Option.some.injEq] at h;subst h
  exact⟨hb,fun u hu=>w5 hle hr hb hu,fun us hu=>y7 hle hr hb hu,fun cs hu=>u5 hle hr hb hu⟩
 |anil=>
  intro r h hc hb
  simp only[fzV,Option.some.injEq] at h;subst h
  exact⟨hb,fun u hu=>w5 hle hr hb hu,fun us hu=>y7 hle hr hb hu,fun cs hu=>u5 hle hr hb hu⟩
 |undef=>
  intro r h hc hb
  simp only[fzV,Option.some.injEq] at h;subst h
  exact⟨hb,fun u hu=>w5 hle hr hb hu,fun us hu=>y7 hle hr hb hu,fun cs hu=>u5 hle hr hb hu⟩
 |full e x=>
  intro r h hc hb
  simp only[fzV,Option.some.injEq] at h;subst h
  exact⟨hb,fun u hu=>w5 hle hr hb hu,fun us hu=>y7 hle hr hb hu,fun cs hu=>u5 hle hr hb hu⟩
theorem q0c{HF:List (Nat×HO)}:∀ {H:List (Nat×HO)} {r:List Prop×List (Nat×HO)},fzH HF F H=some r→allP r.1→∀ l o',lk r.2 l=some o'→F.contains l=false∧∃ o,lk H l=some o ∧
  (match o with
   |.cell t a=>∃ q,fzV HF F a=some q∧allP q.1∧confB t q.2=true∧o'=.cell t q.2
   |.sl eid e xs=>o'=.sl eid e xs
   |.map kt vt es clk=>o'=.map kt vt es clk
   |.iter m since seen last=>o'=.iter m since seen last
   |.cus Q=>o'=.cus Q
   |.loop st pe ps az bd n L=>∃ q,fzR HF F L (L.map (·.1))=some q∧allP q.1∧o'=.loop st pe ps az bd n q.2
   |.fr i L=>∃ q,fzR HF F L (L.map (·.1))=some q∧allP q.1∧o'=.fr i q.2
   |.raw ..|.rmap ..|.riter ..|.gl ..=>False)
 |[],r,h,_,l,o',hl=>by simp only[fzH,Option.some.injEq] at h;subst h;simp[lk] at hl
 |(k,u)::H,r,h,hc,l,o',hl=>by
  simp only[fzH] at h
  split at h
  ·rename_i hk
   obtain⟨e1,o,e2,e3⟩:=q0c h hc l o' hl
   refine⟨e1,o,?_,e3⟩
   have:k≠l:=by rintro rfl;rw[hk] at e1;cases e1
   simp only[lk,if_neg this,e2]
  ·rename_i hk
   cases u with
   |raw ty k n c=>cases h
   |rmap es clk=>cases h
   |riter m since seen last bk=>cases h
   |gl g ty n c=>cases h
   |cell t a=>
    simp only[Option.bind_eq_some_iff] at h
    obtain⟨q,hq,h⟩:=h
    split at h
    ·rename_i hcf
     simp only[Option.map_eq_some_iff] at h
     obtain⟨p,hp,rfl⟩:=h
     rw[q9] at hc
     simp only[lk] at hl ⊢
     by_cases e:k=l
     ·subst e
      rw[if_pos rfl] at hl
      injection hl with hl;subst hl
      exact⟨hk,.cell t a,by rw[if_pos rfl],q,hq,hc.1,hcf,rfl⟩
     ·rw[if_neg e] at hl ⊢
      exact q0c hp hc.2 l o' hl
    ·cases h
   |sl eid e' xs=>
    simp only[Option.map_eq_some_iff] at h
    obtain⟨p,hp,rfl⟩:=h
    simp only[lk] at hl ⊢
    by_cases e:k=l
    ·subst e
     rw[if_pos rfl] at hl
     injection hl with hl;subst hl
     exact⟨hk,.sl eid e' xs,by rw[if_pos rfl],rfl⟩
    ·rw[if_neg e] at hl ⊢
     exact q0c hp hc l o' hl
   |map kt vt es clk=>
    simp only[Option.map_eq_some_iff] at h
    obtain⟨p,hp,rfl⟩:=h
    simp only[lk] at hl ⊢
    by_cases e:k=l
    ·subst e
     rw[if_pos rfl] at hl
     injection hl with hl;subst hl
     exact⟨hk,.map kt vt es clk,by rw[if_pos rfl],rfl⟩
    ·rw[if_neg e] at hl ⊢
     exact q0c hp hc l o' hl
   |iter m since seen last=>
    simp only[Option.map_eq_some_iff] at h
    obtain⟨p,hp,rfl⟩:=h
    simp only[lk] at hl ⊢
    by_cases e:k=l
    ·subst e
     rw[if_pos rfl] at hl
     injection hl with hl;subst hl
     exact⟨hk,.iter m since seen last,by rw[if_pos rfl],rfl⟩
    ·rw[if_neg e] at hl ⊢
     exact q0c hp hc l o' hl
   |cus Q=>
    simp only[Option.map_eq_some_iff] at h
    obtain⟨p,hp,rfl⟩:=h
    simp only[lk] at hl ⊢
    by_cases e:k=l
    ·subst e
     rw[if_pos rfl] at hl
     injection hl with hl;subst hl
     exact⟨hk,.cus Q,by rw[if_pos rfl],rfl⟩
    ·rw[if_neg e] at hl ⊢
     exact q0c hp hc l o' hl
   |loop st pe ps az bd n L=>
    simp only[Option.bind_eq_some_iff,Option.map_eq_some_iff] at h
    obtain⟨q,hq,p,hp,rfl⟩:=h
    rw[q9] at hc
    simp only[lk] at hl ⊢
    by_cases e:k=l
    ·subst e
     rw[if_pos rfl] at hl
     injection hl with hl;subst hl
     exact⟨hk,.loop st pe ps az bd n L,by rw[if_pos rfl],q,hq,hc.1,rfl⟩
    ·rw[if_neg e] at hl ⊢
     exact q0c hp hc.2 l o' hl
   |fr i L=>
    simp only[Option.bind_eq_some_iff,Option.map_eq_some_iff] at h
    obtain⟨q,hq,p,hp,rfl⟩:=h
    rw[q9] at hc
    simp only[lk] at hl ⊢
    by_cases e:k=l
    ·subst e
     rw[if_pos rfl] at hl
     injection hl with hl;subst hl
     exact⟨hk,.fr i L,by rw[if_pos rfl],q,hq,hc.1,rfl⟩
    ·rw[if_neg e] at hl ⊢
     exact q0c hp hc.2 l o' hl
theorem z2j{HF:List (Nat×HO)}{L:List (Nat×AV)}:∀ {K:List Nat} {r:List Prop×List (Nat×AV)},fzR HF F L K=some r→allP r.1→∀ d v',(d,v')∈r.2 →
  ∃ v q,lk L d=some v∧fzV HF F v=some q∧allP q.1∧v'=q.2
 |[],r,h,_,d,v',hl=>by simp only[fzR,Option.some.injEq] at h;subst h;cases hl
 |k::K,r,h,hc,d,v',hl=>by
  simp only[fzR] at h
  split at h
  ·rename_i v hv
   simp only[Option.bind_eq_some_iff,Option.map_eq_some_iff] at h
   obtain⟨q,hq,p,hp,rfl⟩:=h
   rw[q9] at hc
   rcases List.mem_cons.1 hl with e|e
   ·injection e with e1 e2;subst e1 e2
    exact⟨v,q,hv,hq,hc.1,rfl⟩
   ·exact z2j hp hc.2 d v' e
  ·cases h
theorem q5m{HF:List (Nat×HO)}{L:List (Nat×AV)}:∀ {K:List Nat} {r:List Prop×List (Nat×AV)},fzR HF F L K=some r→allP r.1→∀ d v',lk r.2 d=some v' →
  ∃ v q,lk L d=some v∧fzV HF F v=some q∧allP q.1∧v'=q.2
 |[],r,h,_,d,v',hl=>by simp only[fzR,Option.some.injEq] at h;subst h;simp[lk] at hl
 |k::K,r,h,hc,d,v',hl=>by
  simp only[fzR] at h
  split at h
  ·rename_i v hv
   simp only[Option.bind_eq_some_iff,Option.map_eq_some_iff] at h
   obtain⟨q,hq,p,hp,rfl⟩:=h
   rw[q9] at hc
   simp only[lk] at hl
   by_cases e:k=d
   ·subst e
    rw[if_pos rfl] at hl
    injection hl with hl
    exact⟨v,q,hv,hq,hc.1,hl.symm⟩
   ·rw[if_neg e] at hl
    exact q5m hp hc.2 d v' hl
  ·cases h
theorem q6p{K:List Nat}{r:List Prop×S}(h:frz F K s=some r)(hc:allP r.1)(h1:SAT X M ρ s w)(h2:REG X M ρ s a) :
  SAT X (frzM F s M ρ w) ρ r.2 w∧REG X (frzM F s M ρ w) ρ r.2 a:=by
 simp only[frz,Option.bind_eq_some_iff,Option.map_eq_some_iff] at h
 obtain⟨p,hp,q,hq,rfl⟩:=h
 rw[q9] at hc
 have hle:=q6q (F:=F) h1
 have hr:=Env.upTo.refl ρ s.nx
 have hH:=q0c hq hc.2
 have hat:∀ l o',lk q.2 l=some o'→∃ o,lk s.H l=some o∧∀ b,o'.at ρ l=some b→o.at ρ l=some b:=fun l o' hl=>by
  obtain⟨e1,o,e2,e3⟩:=hH l o' hl
  refine⟨o,e2,fun b hb=>?_⟩
  cases o with
  |cell t a0=>obtain⟨q',_,_,_,rfl⟩:=e3;exact hb
  |sl eid e xs=>subst e3;exact hb
  |map kt vt es clk=>subst e3;exact hb
  |iter m since seen last=>subst e3;exact hb
  |cus Q=>subst e3;exact hb
  |loop st pe ps az bd n L=>obtain⟨q',_,_,rfl⟩:=e3;exact hb
  |fr i L=>obtain⟨q',_,_,rfl⟩:=e3;exact hb
  |raw ty k n c=>exact e3.elim
  |rmap es clk=>exact e3.elim
  |riter m since seen last bk=>exact e3.elim
  |gl g ty n c=>exact e3.elim
 have hown:∀ b,(∃ l o,lk (pickF s.H F) l=some o∧o.at ρ l=some b)→X.E.heap.size≤b:=fun b ⟨l,o,e1,e2⟩=>
  (p9 ((z9f (F:=F) h1).own l o e1).2.2 e2).1
 refine⟨⟨h1.below,fun b o hb=>q83 h1 b o (h1.msub b o hb),fun b hb=>?_,fun b o hb=>?_,fun l o' hl=>?_,fun l l' o o' b hl hl' hb hb'=>?_,fun l o b hl hb=>?_⟩,⟨h2.size,let ⟨Ds,e1,e2,e3,e4⟩:=h2.defers;⟨Ds,e1,e2,fun D hD=>⟨(e3 D hD).1,q83 h1 _ _ (e3 D hD).2⟩,e4⟩,fun d v' hd=>?_⟩⟩
 ·unfold frzM
  split
  ·rename_i h;have:=hown b h;omega
  ·exact h1.mnew b hb
 ·unfold frzM at hb
  split at hb
  ·exact hb
  ·exact h1.mem b o hb
 ·obtain⟨e1,o,e2,e3⟩:=hH l o' hl
  obtain⟨f1,f2,f3⟩:=h1.own l o e2
  cases o with
  |raw ty k n c=>exact e3.elim
  |rmap es clk=>exact e3.elim
  |riter m since seen last bk=>exact e3.elim
  |gl g ty n c=>exact e3.elim
  |cell t a0=>
   obtain⟨q',g1,g2,g3,rfl⟩:=e3
   simp only[HO.ok] at f3
   obtain⟨k1,k2,k3,c,ty,k4,k5⟩:=f3
   obtain⟨b1,_,_,b4⟩:=q08 h1 g1 g2 f2
   refine⟨f1,b1,?_⟩
   simp only[HO.ok]
   exact⟨k1,g3,k3,c,ty,k4,b4 _ k5⟩
  |sl eid e xs=>
   subst e3
   simp only[HO.ok] at f3
   obtain⟨k1,cs,k2,k3⟩:=f3
   refine⟨f1,f2,?_⟩
   simp only[HO.ok]
   exact⟨k1,cs,k2,k3.mono hle⟩
  |map kt vt es clk=>
   subst e3
   simp only[HO.ok] at f3
   obtain⟨k1,ms,k2,k3⟩:=f3
   refine⟨f1,f2,?_⟩
   simp only[HO.ok]
   exact⟨k1,ms,k2,k3.mono hle⟩
  |iter m since seen last=>
   subst e3
   refine⟨f1,f2,?_⟩
   simp only[HO.ok] at f3 ⊢
   exact f3
  |cus Q=>
   subst e3
   refine⟨f1,f2,?_⟩
   simp only[HO.ok] at f3 ⊢
   exact f3
  |loop st pe ps az bd n L=>
   obtain⟨q',g1,g2,rfl⟩:=e3
   simp only[HO.ok] at f3
   obtain⟨k1,fn,tm,D,k2,k3,k4⟩:=f3
   refine⟨f1,fun p hp=>?_,?_⟩
   ·obtain⟨v,q2,m1,m2,m3,m4⟩:=z2j g1 g2 p.1 p.2 hp
    rw[m4];exact(q08 h1 m2 m3 (f2 _ (p4 m1))).1
   ·simp only[HO.ok]
    refine⟨k1,fn,tm,D,k2,k3,fun d v' hd=>?_⟩
    obtain⟨v,q2,m1,m2,m3,rfl⟩:=q5m g1 g2 d v' hd
    exact(q08 h1 m2 m3 (f2 _ (p4 m1))).2.1 _ (k4 d v m1)
  |fr i L=>
   obtain⟨q',g1,g2,rfl⟩:=e3
   simp only[HO.ok] at f3
   refine⟨f1,fun p hp=>?_,?_⟩
   ·obtain⟨v,q2,m1,m2,m3,m4⟩:=z2j g1 g2 p.1 p.2 hp
    rw[m4];exact(q08 h1 m2 m3 (f2 _ (p4 m1))).1
   ·simp only[HO.ok]
    refine⟨f3.1,fun d v' hd=>?_⟩
    obtain⟨v,q2,m1,m2,m3,rfl⟩:=q5m g1 g2 d v' hd
    exact(q08 h1 m2 m3 (f2 _ (p4 m1))).2.1 _ (f3.2 d v m1)
 ·obtain⟨o1,e1,e2⟩:=hat l o hl
  obtain⟨o2,e3,e4⟩:=hat l' o' hl'
  exact h1.apart l l' o1 o2 b e1 e3 (e2 b hb) (e4 b hb')
 ·obtain⟨o1,e1,e2⟩:=hat l o hl
  unfold frzM
  split
  ·rename_i h
   obtain⟨l',o',f1,f2⟩:=h
   rw[q5j] at f1
   split at f1
   ·rename_i hF
    have:=h1.apart l l' o1 o' b e1 f1 (e2 b hb) f2
    subst this
    rw[(hH l o hl).1] at hF;cases hF
   ·cases f1
  ·exact h1.notM l o1 b e1 (e2 b hb)
 ·obtain⟨v,q',e1,e2,e3,rfl⟩:=q5m hp hc.1 d v' hd
  obtain⟨f1,f2⟩:=h2.reg d v e1
  obtain⟨b1,b2,_,_⟩:=q08 h1 e2 e3 f1
  exact⟨b1,b2 _ f2⟩
theorem JC.frz{c:Code}{cs:List Prop}{s':S}(F K:List Nat)(h:Ox.frz F K s=some (cs,s'))(hc:allP cs)(k:JC X c QA s'):JC X c QA s:=fun M ρ a w h1 h2=>by
 obtain⟨e1,e2⟩:=q6p h hc h1 h2
 exact k _ ρ a w e1 e2
theorem JL.frz{cs:List Prop}{s':S}(F K:List Nat)(h:Ox.frz F K s=some (cs,s'))(hc:allP cs)(k:JL X md all QA l s'):JL X md all QA l s:=by
 cases md
 ·intro M ρ a w h1 h2
  obtain⟨e1,e2⟩:=q6p h hc h1 h2
  exact k _ ρ a w e1 e2
 ·intro M ρ a w h1 h2
  obtain⟨e1,e2⟩:=q6p h hc h1 h2
  exact k _ ρ a w e1 e2
end Ox
namespace Ox
open Go Go.RowKit
variable {X:Ctx}{s:S}{M:Mem}{ρ:Env}{a:Act}{w w':World}{QA:Exit→S→Prop}{all l:List Oper}{md:Bool}
theorem q47(w:World)(row:Option Nat):w.grownBy w row:=⟨rfl,rfl,rfl,Nat.le_refl _,fun _ _ _=>rfl⟩
def Env.nilAt(ρ:Env)(n:Nat)(e:Ty):Env:=⟨ρ.blk,fun k=>if k=n then e else ρ.ty k,fun k=>if k=n then .slice none 0 0 else ρ.sv k⟩
theorem q4h(ρ:Env)(n:Nat)(e:Ty):ρ.upTo (ρ.nilAt n e) n:=fun l hl=>by
 have:l≠n:=by omega
 simp[Env.nilAt,this]
theorem SAT.ghost(h1:SAT X M ρ s w)(eid:TypeId)(e:Ty):SAT X M (ρ.nilAt s.nx e) ⟨s.L,(s.nx,.sl eid e [])::s.H,s.nx+1⟩ w:=by
 refine h1.add (row:=none) (q47 w none) (fun b h=>by cases h) (fun l o h=>⟨h,fun b _ hb=>by cases hb⟩) (q4h ρ s.nx e) trivial ?_ (fun b hb=>?_)
 ·simp only[HO.ok]
  refine⟨by simp[Env.nilAt],[],⟨by simp,.inl ⟨by simp[Env.nilAt],rfl⟩⟩,by simp,fun i h=>absurd h (by simp)⟩
 ·simp[HO.at,Env.nilAt,Value.ownBlock] at hb
theorem z75{n:Nat}{e:Ty}:(AV.lf (.osl n)).rv M (ρ.nilAt n e) (.slice none 0 0):=by
 simp only[AV.rv,Leaf.at]
 exact⟨by simp[Env.nilAt],rfl⟩
theorem nils_rv{u:Value}(h:(AV.lf .nils).rv M ρ u):u=.slice none 0 0:=by
 simp only[AV.rv,Leaf.at] at h
 exact(Option.some.inj h.1).symm
theorem JC.ghost{c:Code}(d:Nat)(eid:TypeId)(e:Ty)(hd:lk s.L d=some (.lf .nils))(k:JC X c QA ⟨(d,.lf (.osl s.nx))::s.L,(s.nx,.sl eid e [])::s.H,s.nx+1⟩):JC X c QA s:=fun M ρ a w h1 h2=>by
 have g1:=h1.ghost eid e
 have hr:=q4h ρ s.nx e
 have g2:REG X M (ρ.nilAt s.nx e) ⟨(d,.lf (.osl s.nx))::s.L,(s.nx,.sl eid e [])::s.H,s.nx+1⟩ a:=by
  refine⟨h2.size,h2.defers,fun d' v hv=>?_⟩
  simp only[lk] at hv
  split at hv
  ·rename_i hdd
   injection hv with hv;subst hv;subst hdd
   refine⟨Nat.lt_succ_self _,?_⟩
   rw[nils_rv (h2.reg d _ hd).2]
   exact z75
  ·obtain⟨f1,f2⟩:=h2.reg d' v hv
   exact⟨k9 (Nat.le_succ _) f1,w5 (Mem.le_refl M) hr f1 f2⟩
 exact k M _ a w ⟨g1.below,g1.msub,g1.mnew,g1.mem,g1.own,g1.apart,g1.notM⟩ g2
def ghA(n:Nat):AV→Nat→Option AV
 |.mix (.lf .nils) b,0=>some (.mix (.lf (.osl n)) b)
 |.mix a b,i+1=>(ghA n b i).map (.mix a)
 |_,_=>none
theorem y6{K:S→Prop}(h:K s):JL X md all (qN K) [] s:=JL.nil h
def mtL:Leaf→Leaf→List (Nat×Nat)
 |.osl a,.osl b|.optr a _,.optr b _|.oelt a _ _,.oelt b _ _|.oarr a _ _ _,.oarr b _ _ _|.ovw a _ _ _,.ovw b _ _ _|.mp a,.mp b|.itr a,.itr b|.yld a,.yld b=>[(a,b)]
 |_,_=>[]
def mtV:AV→AV→List (Nat×Nat)
 |.lf x,.lf y=>mtL x y
 |.mix a b,.mix c d|.acons a b,.acons c d|.fn _ a b,.fn _ c d=>mtV a c++mtV b d
 |.tup a,.tup b|.gd _ a,.gd _ b|.pfn a,.pfn b=>mtV a b
 |_,_=>[]
def mtR(L:List (Nat×AV)):List (Nat×AV)→List (Nat×Nat)
 |[]=>[]
 |(d,v)::r=>(match lk L d with|some u=>mtV v u|none=>[])++mtR L r
def mtH(H' H:List (Nat×HO)):List (Nat×Nat)→List (Nat×Nat)
 |[]=>[]
 |(a,b)::r=>(match lk H' a,lk H b with|some (.cell _ v),some (.cell _ u)=>mtV v u|some (.iter m _ _ _),some (.iter m' _ _ _)=>[(m,m')]|some (.loop _ _ _ _ _ _ L),some (.loop _ _ _ _ _ _ L')=>mtR L' L|_,_=>[])++mtH H' H r
def frL:List (Nat×HO)→List (Nat×Nat×List (Nat×AV))
 |[]=>[]
 |(l,.fr i L)::r=>(i,l,L)::frL r
 |_::r=>frL r
def mtF(F F':List (Nat×Nat×List (Nat×AV))):List (Nat×Nat) :=
 match F with
 |[]=>[]
 |(i,l,L)::r=>(match lk F' i with|some (l',L')=>(l,l')::mtR L' L|none=>[])++mtF r F'
def pairs(s' s:S):List (Nat×Nat):=
 let p1:=mtR s.L s'.L++mtF (frL s'.H) (frL s.H)
 let p2:=mtH s'.H s.H p1
 let p3:=mtH s'.H s.H p2
 p1++(p2++p3)
def renOf(ps:List (Nat×Nat))(n:Nat):Nat:=(lk ps n).getD n
theorem q9t{s' s:S}{ps:List (Nat×Nat)}(_:pairs s' s=ps)(hL:covL (renOf ps) s'.L s.L)(hH:covH (renOf ps) s'.H s.H)(hbL:bdL s'.nx s'.L)(hbH:bdH s'.nx s'.H)(hi:injH (renOf ps) s'.H=true):JW X s' s:=
 JW.of (renOf ps) hL hH hbL hbH hi
end Ox
namespace Ox
open Go Go.RowKit
variable {X:Ctx}{s:S}{M:Mem}{ρ:Env}{a:Act}{w w':World}{QA:Exit→S→Prop}{K:S→Prop}{ops:List Oper}{ls:List Nat}{fuel:Nat}
def frB(ops:List Oper)(ls:List Nat)(i:Nat):Bool:=
 match ops[i]? with
 |some o=>!ls.contains i&&edgesL ops.length ls o.after.toList&&freeL ops.length ops ls i o 0 ops
 |none=>false
def rdI(ops:List Oper)(ls:List Nat):List Nat:=(rdyL ops.length ls 0 ops).map (·.1)
def BrI(X:Ctx)(ops:List Oper)(K:S→Prop)(fuel:Nat)(ls:List Nat)(s:S):List Nat→Prop
 |[]=>True
 |i::r=>(∃ o,ops[i]?=some o∧JL X true ops (qN fun s'=>JAny X ops K fuel (i::ls) s') [o] s)∧BrI X ops K fuel ls s r
theorem BrI.one{i:Nat}{r:List Nat}{o:Oper}(ho:ops[i]?=some o)(h:JL X true ops (qN fun s'=>JAny X ops K fuel (i::ls) s') [o] s)(h':BrI X ops K fuel ls s r):BrI X ops K fuel ls s (i::r):=⟨⟨o,ho,h⟩,h'⟩
theorem BrI.nil:BrI X ops K fuel ls s []:=trivial
def rgn(id:Nat):Code→List Oper
 |.region id' ops _=>match Nat.beq id' id with|true=>ops.toList|false=>[]
 |.seq a b=>match rgn id a with|[]=>rgn id b|l=>l
 |.block _ c=>rgn id c
 |.loop c=>rgn id c
 |.cond _ a b=>match rgn id a with|[]=>rgn id b|l=>l
 |_=>[]
end Ox
namespace Ox
open Go Go.RowKit
variable {X:Ctx}{s:S}{M:Mem}{ρ:Env}{a a':Act}{w w':World}{QA:Exit→S→Prop}{K:S→Prop}{ops:List Oper}{ls fl fr:List Nat}{fuel:Nat}
def PutsR(ops:List Oper):List Nat→Act→Act→Prop
 |[],a,a'=>a'=a
 |f::r,a,a'=>∃ o z,ops[f]?=some o∧PutsR ops r (a.put o.dst z) a'
def NoSel(ops:List Oper):Prop:=∀ (j:Nat) (o:Oper) cs b,ops[j]?=some o→o.op≠.select cs b
theorem PutsR.put{d:Option Nat}{z:Value}:∀ {fr:List Nat} {a a':Act},PutsR ops fr a a'→(∀ f∈fr,∀ o,ops[f]?=some o→∀ e,o.dst=some e→d≠some e)→PutsR ops fr (a.put d z) (a'.put d z)
 |[],a,a',h,_=>by simp only[PutsR] at h ⊢;rw[h]
 |f::r,a,a',h,hd=>by
  simp only[PutsR] at h ⊢
  obtain⟨o,y,ho,h⟩:=h
  refine⟨o,y,ho,?_⟩
  have h1:=PutsR.put (d:=d) (z:=z) h fun g hg=>hd g (List.mem_cons_of_mem _ hg)
  rw[Act.put_comm a (x:=o.dst) (y:=d) y z (fun e he=>hd f List.mem_cons_self o ho e he)] at h1
  exact h1
theorem z2w(a:Act)(d:Option Nat)(y z:Value):(a.put d y).put d z=a.put d z:=by
 cases d with
 |none=>rfl
 |some d=>
  simp only[Act.put]
  congr 1
  exact Array.setIfInBounds_setIfInBounds _
theorem PutsR.erase{k:Nat}{ok:Oper}{z:Value}(hk:ops[k]?=some ok):∀ {fr:List Nat} {a a':Act},PutsR ops fr a a'→k∈fr→fr.Nodup →
  (∀ f∈fr,f≠k→∀ o,ops[f]?=some o→∀ e,o.dst=some e→ok.dst≠some e)→PutsR ops (fr.erase k) (a.put ok.dst z) (a'.put ok.dst z)
 |[],_,_,_,hm,_,_=>by cases hm
 |f::r,a,a',h,hm,hn,hd=>by
  simp only[PutsR] at h
  obtain⟨o,y,ho,h⟩:=h
  by_cases hf:f=k
  ·subst hf
   rw[hk] at ho;injection ho with ho;subst ho
   rw[List.erase_cons_head]
   have h1:=PutsR.put (d:=ok.dst) (z:=z) h fun g hg o' ho' e he=>hd g (List.mem_cons_of_mem _ hg) (fun e'=>by subst e';exact(List.nodup_cons.1 hn).1 hg) o' ho' e he
   rw[z2w] at h1
   exact h1
  ·rw[List.erase_cons_tail (by simpa using hf)]
   have h1:=PutsR.erase (z:=z) hk h ((List.mem_cons.1 hm).resolve_left (Ne.symm hf)) (List.nodup_cons.1 hn).2 fun g hg=>hd g (List.mem_cons_of_mem _ hg)
   refine⟨o,y,ho,?_⟩
   rw[Act.put_comm a (x:=o.dst) (y:=ok.dst) y z (fun e he=>hd f List.mem_cons_self hf o ho e he)] at h1
   exact h1
theorem PutsR.exec{o:Oper}(hs:∀ cs b,o.op≠.select cs b):∀ {fr:List Nat} {a a':Act},PutsR ops fr a a'→(∀ f∈fr,∀ q,ops[f]?=some q→∀ d,q.dst=some d→d∉o.looksAt ops.toArray) →
  execOp a'.eval o=execOp a.eval o∧Region.wanted o (yielded ops.toArray a'.tmps)=Region.wanted o (yielded ops.toArray a.tmps)
 |[],a,a',h,_=>by simp only[PutsR] at h;subst h;exact⟨rfl,rfl⟩
 |f::r,a,a',h,hd=>by
  simp only[PutsR] at h
  obtain⟨q,y,hq,h⟩:=h
  obtain⟨h1,h2⟩:=PutsR.exec hs h fun g hg=>hd g (List.mem_cons_of_mem _ hg)
  have hn:=hd f List.mem_cons_self q hq
  exact⟨h1.trans (execOp_put o hs a q.dst y hn),h2.trans (wanted_put o a q.dst y hn)⟩
theorem PutsR.op{Q:Exit→Act→World→Prop}{j:Nat}{oj:Oper}(hQ:∀ e a w,e≠.normal→¬ Q e a w)(hj:ops[j]?=some oj)(hsj:∀ cs b,oj.op≠.select cs b)(hn:notDef oj.op=true) :
  ∀ {fr:List Nat} {K:Act→World→Prop} {a a':Act},PutsR ops fr a a'→(∀ f∈fr,∀ q,ops[f]?=some q→(∀ d,q.dst=some d→d∉oj.looksAt ops.toArray)∧(∀ d,q.dst=some d→oj.dst≠some d)) →
  wpOpIn X.fn 0 X.P ops.toArray Q j K a' w→wpOpIn X.fn 0 X.P ops.toArray Q j (fun b w'=>∃ b',PutsR ops fr b b'∧K b' w') a w
 |[],K,a,a',h,_,hw=>by
  simp only[PutsR] at h;subst h
  exact wpOpIn_mono (fun b w' hk=>⟨b,rfl,hk⟩) hw
 |f::r,K,a,a',h,hd,hw=>by
  simp only[PutsR] at h
  obtain⟨q,y,hq,h⟩:=h
  have h1:=PutsR.op hQ hj hsj hn h (fun g hg=>hd g (List.mem_cons_of_mem _ hg)) hw
  obtain⟨e1,e2⟩:=hd f List.mem_cons_self q hq
  have h2:=z59 (oi:=q) hQ (by simpa using hj) e1 e2 hsj hn h1
  exact wpOpIn_mono (fun b w' ⟨b',hp,hk⟩=>⟨b',⟨q,y,hq,hp⟩,hk⟩) h2
def LstF(n:Nat)(ls fr:List Nat)(l:Array Bool):Prop:=l.size=n∧∀ j,j<n→l[j]?=some (ls.contains j&&!fr.contains j)
def JF(X:Ctx)(ops:List Oper)(K:S→Prop)(fl:List Nat)(fuel:Nat)(ls:List Nat)(s:S):Prop:=
 ∀ M ρ a a' w l fr,(∀ f∈fr,f∈fl)→fr.Nodup→LstF ops.length ls fr l→PutsR ops fr a a'→SAT X M ρ s w→REG X M ρ s a'→wpAnyIn X.fn 0 X.P .any ops.toArray (conc X (qN K)) (fuel+fr.length) l a w
theorem JF.any(h:JF X ops K [] fuel ls s):JAny X ops K fuel ls s:=by
 intro M ρ a w l hl h1 h2
 exact h M ρ a a w l [] (by simp) (by simp) ⟨hl.1,fun j hj=>by rw[hl.2 j hj];simp⟩ rfl h1 h2
theorem LstF.getT{n j:Nat}{l:Array Bool}(h:LstF n ls fr l)(hj:j<n)(d:Bool):l.getD j d=(ls.contains j&&!fr.contains j):=by
 have:=h.2 j hj
 simp[Array.getD_eq_getD_getElem?,this]
theorem LstF.setNew{n i:Nat}{l:Array Bool}(h:LstF n ls fr l)(hi:i<n)(hf:i∉fr):LstF n (i::ls) fr (l.setIfInBounds i true):=by
 refine⟨by simp[h.1],fun j hj=>?_⟩
 rw[Array.getElem?_setIfInBounds]
 by_cases e:i=j
 ·subst e;simp[h.1,hi,hf]
 ·rw[if_neg e,h.2 j hj];simp[Ne.symm e]
theorem LstF.setOld{n i:Nat}{l:Array Bool}(h:LstF n ls fr l)(hi:i<n)(hl:i∈ls)(hn:fr.Nodup):LstF n ls (fr.erase i) (l.setIfInBounds i true):=by
 refine⟨by simp[h.1],fun j hj=>?_⟩
 rw[Array.getElem?_setIfInBounds]
 by_cases e:i=j
 ·subst e
  have:i∉fr.erase i:=fun hm=>by rw[List.Nodup.mem_erase_iff hn] at hm;exact hm.1 rfl
  simp[h.1,hi,hl,this]
 ·rw[if_neg e,h.2 j hj]
  have:(fr.erase i).contains j=fr.contains j:=by
   rw[Bool.eq_iff_iff];simp[List.mem_erase_of_ne (Ne.symm e)]
  rw[this]
theorem LstF.float{n i:Nat}{l:Array Bool}(h:LstF n ls fr l)(hls:ls.contains i=false):LstF n (i::ls) (i::fr) l:=by
 refine⟨h.1,fun j hj=>?_⟩
 rw[h.2 j hj]
 by_cases e:j=i
 ·subst e;simp at hls;simp[hls]
 ·simp[e]
def waits(o:Oper)(f:Nat):Bool:=o.after.toList.any fun e=>Region.binds .any e&&e.on==f
theorem q0z{o:Oper}{f:Nat}:waits o f=true↔∃ e∈o.after,Region.binds .any e=true∧e.on=f:=by
 simp only[waits,List.any_eq_true,Bool.and_eq_true,beq_iff_eq]
 exact⟨fun⟨e,h1,h2,h3⟩=>⟨e,by simpa using h1,h2,h3⟩,fun⟨e,h1,h2,h3⟩=>⟨e,by simpa using h1,h2,h3⟩⟩
def halfB(ops:List Oper)(q o:Oper):Bool:=
 match q.dst with
 |some d=>!(o.looksAt ops.toArray).contains d&&o.dst != some d
 |none=>true
theorem t6{q o:Oper}(h:halfB ops q o=true):(∀ d,q.dst=some d→d∉o.looksAt ops.toArray)∧(∀ d,q.dst=some d→o.dst≠some d):=by
 refine⟨fun d hd=>?_,fun d hd=>?_⟩<;>simp[halfB,hd] at h
 ·exact h.1
 ·exact h.2
def flB(ops:List Oper)(ls fl:List Nat):Bool:=
 fl.all fun f=>ls.contains f&&(match ops[f]? with
  |some o=>edgesL ops.length ls o.after.toList&&o.after.toList.all (fun e=>!Region.binds .any e||Nat.blt e.on f) &&
    (match o.dst with|some d=>!(o.looksAt ops.toArray).contains d|none=>true) &&
    fl.all (fun g=>g==f||waits o g||(match ops[g]? with|some q=>halfB ops q o|none=>false))
  |none=>false)
def apB(ops:List Oper)(fl:List Nat)(i:Nat):Bool:=
 match ops[i]? with
 |some o=>fl.all fun g=>waits o g||(match ops[g]? with|some q=>halfB ops q o|none=>false)
 |none=>false
structure StOne(X:Ctx)(ops:List Oper)(s:S)(f:Nat):Prop where
 ex:∃ o d v,ops[f]?=some o∧o.dst=some d∧ltB d X.n=true∧notDef o.op=true∧lk s.L d=some v∧(TOK X.P X.T→∀ M ρ a w,SAT X M ρ s w→REG X M ρ s a→v.bd s.nx∧∃ z,v.rv M ρ z ∧
  ((Region.wanted o (yielded ops.toArray a.tmps)=true∧(execOp a.eval o).run X.P w=.ok (.value z) w)∨(Region.wanted o (yielded ops.toArray a.tmps)=false∧z=Go.undef)))
def StF(X:Ctx)(ops:List Oper)(s:S):List Nat→Prop
 |[]=>True
 |f::r=>StOne X ops s f∧StF X ops s r
theorem StF.mem{f:Nat}:∀ {fl:List Nat},StF X ops s fl→f∈fl→StOne X ops s f
 |[],_,h=>by cases h
 |g::r,h,hm=>by
  rcases List.mem_cons.1 hm with e|e
  ·subst e;exact h.1
  ·exact StF.mem h.2 e
def BrF(X:Ctx)(ops:List Oper)(K:S→Prop)(fl:List Nat)(fuel:Nat)(ls:List Nat)(s:S):List Nat→Prop
 |[]=>True
 |i::r=>(∃ o fl',ops[i]?=some o∧(fl.filter fun f=>!waits o f)=fl'∧JL X true ops (qN fun s'=>JF X ops K fl' fuel (i::ls) s') [o] s)∧BrF X ops K fl fuel ls s r
theorem BrF.mem{i:Nat}:∀ {r:List Nat},BrF X ops K fl fuel ls s r→i∈r→∃ o,ops[i]?=some o∧JL X true ops (qN fun s'=>JF X ops K (fl.filter fun f=>!waits o f) fuel (i::ls) s') [o] s
 |[],_,h=>by cases h
 |j::r,h,hm=>by
  rcases List.mem_cons.1 hm with e|e
  ·subst e;obtain⟨o,fl',h1,rfl,h2⟩:=h.1;exact⟨o,h1,h2⟩
  ·exact BrF.mem h.2 e
theorem j04{d:Nat}{v:AV}{L:List (Nat×AV)}{H:List (Nat×HO)}{nx:Nat}(h:REG X M ρ ⟨(d,v)::L,H,nx⟩ a)(hl:lk L d=some v):REG X M ρ ⟨L,H,nx⟩ a:=by
 refine⟨h.size,h.defers,fun e u he=>?_⟩
 have:=h.reg e u
 simp only[lk] at this
 by_cases hd:d=e
 ·subst hd
  rw[hl] at he;injection he with he;subst he
  exact this (by simp)
 ·exact this (by rw[if_neg hd];exact he)
theorem q48:∀ {fr:List Nat},fr≠[]→∃ m∈fr,∀ j∈fr,m≤j
 |[],h=>absurd rfl h
 |[x],_=>⟨x,by simp,by simp⟩
 |x::y::r,_=>by
  obtain⟨m,hm,h⟩:=q48 (fr:=y::r) (by simp)
  by_cases hx:x≤m
  ·refine⟨x,by simp,fun j hj=>?_⟩
   rcases List.mem_cons.1 hj with e|e
   ·omega
   ·have:=h j e;omega
  ·refine⟨m,List.mem_cons_of_mem _ hm,fun j hj=>?_⟩
   rcases List.mem_cons.1 hj with e|e
   ·omega
   ·exact h j e
theorem j1h(is:List Nat)(hns:Region.noSelect ops.toArray=true)(hnd0:ndAll ops=true)(hr:rdI ops ls=is)(hfl:(flB ops ls fl&&is.all (apB ops fl))=true)(hst:StF X ops s fl)(hX:XOK X)
  (hB:is=[]∨∃ fuel',fuel=fuel'+1∧BrF X ops K fl fuel' ls s is) (hK:is=[]→K s):JF X ops K fl fuel ls s:=by
 have hsel:NoSel ops:=fun j o cs b h=>Region.noSelect_spec hns j o cs b (by simpa using h)
 simp only[Bool.and_eq_true] at hfl
 obtain⟨hfl,hap⟩:=hfl
 have hfl:∀ f∈fl,ls.contains f=true∧∃ o,ops[f]?=some o∧edgesL ops.length ls o.after.toList=true∧(∀ e∈o.after,Region.binds .any e=true→e.on<f) ∧
   (∀ d,o.dst=some d→d∉o.looksAt ops.toArray)∧∀ g∈fl,g≠f→waits o g=false→∃ q,ops[g]?=some q∧halfB ops q o=true:=by
  intro f hf
  have:=List.all_eq_true.1 hfl f hf
  simp only[Bool.and_eq_true] at this
  refine⟨this.1,?_⟩
  have h2:=this.2
  split at h2
  ·rename_i o ho
   simp only[Bool.and_eq_true] at h2
   obtain⟨⟨⟨h3,h4⟩,h5⟩,h6⟩:=h2
   refine⟨o,ho,h3,fun e he hb=>?_,fun d hd=>?_,fun g hg hgf hw=>?_⟩
   ·have:=List.all_eq_true.1 h4 e (by simpa using he)
    rw[hb] at this
    simpa using this
   ·rw[hd] at h5;simpa using h5
   ·have:=List.all_eq_true.1 h6 g hg
    rw[hw] at this
    simp only[Bool.or_false,Bool.or_eq_true,beq_iff_eq] at this
    have:=this.resolve_left hgf
    split at this
    ·rename_i q hq;exact⟨q,hq,this⟩
    ·cases this
  ·cases h2
 have hap:∀ i∈is,∀ o,ops[i]?=some o→∀ g∈fl,waits o g=false→∃ q,ops[g]?=some q∧halfB ops q o=true:=by
  intro i hi o ho g hg hw
  have:=List.all_eq_true.1 hap i hi
  simp only[apB,ho] at this
  have:=List.all_eq_true.1 this g hg
  rw[hw] at this
  simp only[Bool.false_or] at this
  split at this
  ·rename_i q hq;exact⟨q,hq,this⟩
  ·cases this
 have hrdy:∀ i,i∈is↔∃ o,ops[i]?=some o∧ls.contains i=false∧edgesL ops.length ls o.after.toList=true:=by
  intro i
  rw[← hr]
  simp only[rdI,List.mem_map]
  constructor
  ·rintro⟨⟨j,o⟩,h,rfl⟩
   obtain⟨_,h1,h2,h3⟩:=q0s.1 h
   exact⟨o,by simpa using h1,h2,h3⟩
  ·rintro⟨o,h1,h2,h3⟩
   exact⟨(i,o),q0s.2 ⟨by omega,by simpa using h1,h2,h3⟩,rfl⟩
 have main:∀ (n:Nat) M ρ a a' w l fr,fr.length=n→(∀ f∈fr,f∈fl)→fr.Nodup→LstF ops.length ls fr l→PutsR ops fr a a'→SAT X M ρ s w→REG X M ρ s a' →
   wpAnyIn X.fn 0 X.P .any ops.toArray (conc X (qN K)) (fuel+fr.length) l a w:=by
  intro n
  induction n with
  |zero=>
   intro M ρ a a' w l fr hn hsub hnd hl hp h1 h2
   obtain rfl:fr=[]:=List.length_eq_zero_iff.1 hn
   simp only[PutsR] at hp;subst hp
   have hl':Lst ops.length ls l:=⟨hl.1,fun j hj=>by rw[hl.2 j hj];simp⟩
   rcases hB with hB|⟨fuel',rfl,hB⟩
   ·have hd:rdyL ops.length ls 0 ops=[]:=by rw[hB] at hr;simpa[rdI] using hr
    exact JAny.done hd (hK hB) M ρ a' w l hl' h1 h2
   ·refine⟨fun h0=>?_,fun i hi=>?_⟩
    ·have hd:is=[]:=by
      rw[List.eq_nil_iff_forall_not_mem]
      intro i hi
      obtain⟨o,ho,h3,h4⟩:=(hrdy i).1 hi
      have:i∈Region.ready .any ops.toArray l:=(q4e hl' i).2 ⟨o,q0s.2 ⟨by omega,by simpa using ho,h3,h4⟩⟩
      rw[h0] at this;cases this
     exact⟨M,ρ,s,h1,h2,hK hd⟩
    ·obtain⟨o,ho⟩:=(q4e hl' i).1 hi
     obtain⟨_,h3,h4,h5⟩:=q0s.1 ho
     have h3:ops[i]?=some o:=by simpa using h3
     obtain⟨o',ho',hJ⟩:=hB.mem ((hrdy i).2 ⟨o,h3,h4,h5⟩)
     rw[h3] at ho';injection ho' with ho';subst ho'
     have hlt:i<ops.length:=(List.getElem?_eq_some_iff.1 h3).1
     have:=hJ M ρ a' w h1 h2
     have this:=q5v (K:=K) h3 this
     refine wpOpIn_mono (fun b w' hk=>?_) this
     obtain⟨M',ρ',s',k1,k2,k3⟩:=hk
     exact k3 M' ρ' b b w' _ [] (by simp) (by simp) (hl.setNew hlt (by simp)) rfl k1 k2
  |succ n ih=>
   intro M ρ a a' w l fr hn hsub hnd hl hp h1 h2
   have hfuel:fuel+fr.length=(fuel+n)+1:=by rw[hn];omega
   rw[hfuel]
   have hne:fr≠[]:=by rintro rfl;simp at hn
   refine⟨fun h0=>?_,fun i hi=>?_⟩
   ·
    obtain⟨m,hm,hmin⟩:=q48 hne
    obtain⟨hin,o,ho,hed,hbl,_,_⟩:=hfl m (hsub m hm)
    have hlt:m<ops.length:=(List.getElem?_eq_some_iff.1 ho).1
    have:m∈Region.ready .any ops.toArray l:=by
     refine mem_ready.2 ⟨by rw[hl.getT hlt];simp[hm],o,by simpa using ho,fun e he hb=>?_⟩
     obtain⟨e1,e2⟩:=u9.1 hed e (by simpa using he) hb
     rw[hl.getT e1,e2]
     have:e.on∉fr:=fun hc=>by have:=hmin _ hc;have:=hbl e he hb;omega
     simp[this]
    rw[h0] at this;cases this
   ·obtain⟨hun,o,ho,hall⟩:=mem_ready.1 hi
    have ho:ops[i]?=some o:=by simpa using ho
    have hlt:i<ops.length:=(List.getElem?_eq_some_iff.1 ho).1
    rw[hl.getT hlt] at hun
    have hall:∀ e∈o.after,Region.binds .any e=true→e.on<ops.length∧ls.contains e.on=true∧e.on∉fr:=by
     intro e he hb
     have h3:=hall e he hb
     rcases Nat.lt_or_ge e.on ops.length with hlt'|hge
     ·rw[hl.getT hlt'] at h3
      simp only[Bool.and_eq_true,Bool.not_eq_true'] at h3
      exact⟨hlt',h3.1,fun hc=>by simp[hc] at h3⟩
     ·have:l.size≤e.on:=by rw[hl.1];exact hge
      simp[Array.getD_eq_getD_getElem?,Array.getElem?_eq_none this] at h3
    have hnw:∀ g∈fr,waits o g=false:=by
     intro g hg
     rw[Bool.eq_false_iff]
     intro hw
     obtain⟨e,he,hb,rfl⟩:=q0z.1 hw
     exact(hall e he hb).2.2 hg
    by_cases hif:i∈fr
    ·
     obtain⟨hin,o',ho',_,_,hself,hpair⟩:=hfl i (hsub i hif)
     rw[ho] at ho';injection ho' with ho';subst ho'
     obtain⟨o',d,v,hop,hdst,hd,hnd1,hlk,hsem⟩:=(hst.mem (hsub i hif)).ex
     rw[ho] at hop;injection hop with hop;subst hop
     obtain⟨hb,z,hz,hrun⟩:=hsem hX.t M ρ a' w h1 h2
     have hap':∀ g∈fr,∀ q,ops[g]?=some q→∀ e,q.dst=some e→e∉o.looksAt ops.toArray:=by
      intro g hg q hq e he
      by_cases hgi:g=i
      ·subst hgi;rw[ho] at hq;injection hq with hq;subst hq;exact hself e he
      ·obtain⟨q',hq',ha⟩:=hpair g (hsub g hg) hgi (hnw g hg)
       rw[hq] at hq';injection hq' with hq';subst hq'
       exact(t6 ha).1 e he
     obtain⟨hx1,hx2⟩:=PutsR.exec (hsel i _ · · ho) hp hap'
     have hlen:(fr.erase i).length=n:=by rw[List.length_erase_of_mem hif];omega
     have next:=ih M ρ (a.put o.dst z) (a'.put o.dst z) w (l.setIfInBounds i true) (fr.erase i) hlen (fun f hf=>hsub f (List.mem_of_mem_erase hf)) (hnd.erase i) (hl.setOld hlt (by simpa using hin) hnd)
      (PutsR.erase ho hp hif hnd fun g hg hgi q hq e he=>by
       obtain⟨q',hq',ha⟩:=hpair g (hsub g hg) hgi (hnw g hg)
       rw[hq] at hq';injection hq' with hq';subst hq'
       exact(t6 ha).2 e he) h1
      (by rw[hdst];exact j04 (L:=s.L) (h2.putO (d:=some d) (dstOk.spec (u0 hd)) hb hz) hlk)
     rw[hlen] at next
     unfold wpOpIn
     simp only[List.getElem?_toArray,ho]
     rw[← hx2]
     rcases hrun with⟨hw1,hrun⟩|⟨hw1,rfl⟩
     ·simp only[hw1,if_true]
      exact v6 hnd1 (by rw[← hx1];exact hrun) next
     ·simp only[hw1,Bool.false_eq_true,if_false]
      exact⟨fun f _=>q2p f,next⟩
    ·
     have hils:ls.contains i=false:=by
      cases hc:ls.contains i with
      |false=>rfl
      |true=>rw[hc] at hun;simp[hif] at hun
     have hii:i∈is:=(hrdy i).2 ⟨o,ho,hils,u9.2 fun e he hb=>⟨(hall e (by simpa using he) hb).1,(hall e (by simpa using he) hb).2.1⟩⟩
     rcases hB with hB|⟨fuel',rfl,hB⟩
     ·rw[hB] at hii;cases hii
     obtain⟨o',ho',hJ⟩:=hB.mem hii
     rw[ho] at ho';injection ho' with ho';subst ho'
     have h3:=q5v (K:=K) ho (hJ M ρ a' w h1 h2)
     have hapf:∀ g∈fr,∀ q,ops[g]?=some q→(∀ d,q.dst=some d→d∉o.looksAt ops.toArray)∧(∀ d,q.dst=some d→o.dst≠some d):=by
      intro g hg q hq
      obtain⟨q',hq',ha⟩:=hap i hii o ho g (hsub g hg) (hnw g hg)
      rw[hq] at hq';injection hq' with hq';subst hq'
      exact t6 ha
     have h4:=PutsR.op (fun _ _ _ h=>q9i h) ho (hsel i o · · ho) (q05 hnd0 i o (by simpa using ho)) hp hapf h3
     refine wpOpIn_mono (fun b w' ⟨b',hp',hk⟩=>?_) h4
     obtain⟨M',ρ',s',k1,k2,k3⟩:=hk
     have:=k3 M' ρ' b b' w' (l.setIfInBounds i true) fr (fun f hf=>List.mem_filter.2 ⟨hsub f hf,by rw[hnw f hf];rfl⟩) hnd (hl.setNew hlt hif) hp' k1 k2
     rw[hn] at this
     rw[show fuel'+1+n=fuel'+(n+1) by omega]
     exact this
 intro M ρ a a' w l fr
 exact main fr.length M ρ a a' w l fr rfl
end Ox
namespace Ox
open Go Go.RowKit
variable {X:Ctx}{s:S}{M:Mem}{ρ:Env}{a a':Act}{w w':World}{QA:Exit→S→Prop}{K:S→Prop}{ops:List Oper}{ls fl fr:List Nat}{fuel:Nat}
def sure(ls fl:List Nat):List Nat:=ls.filter fun j=>!fl.contains j
theorem q1f{j:Nat}:(sure ls fl).contains j=(ls.contains j&&!fl.contains j):=by
 rw[Bool.eq_iff_iff];simp[sure,List.mem_filter]
def fsB(ops:List Oper)(ls fl:List Nat)(i:Nat):Bool:=
 !ls.contains i&&!fl.contains i&&frB ops (sure ls fl) i&&apB ops fl i&&(Region.noSelect ops.toArray&&ndAll ops)
theorem JF.first(i:Nat){d:Nat}{op:Op}{ty:TypeId}{ps:String}{af:Array Edge}{cs:List Prop}{v:AV}{L:List (Nat×AV)}{H:List (Nat×HO)}{nx:Nat}
  (hX:XOK X) (hf:fsB ops ls fl i=true) (ho:ops[i]?=some ⟨some d,op,ty,ps,af,none⟩) (e3:isLoad op=false)
  (h:evq X.T op ⟨L,H,nx⟩=some (cs,v)) (hd:ltB d X.n=true) (hc:allP cs) (k:JF X ops K fl fuel (i::ls) ⟨(d,v)::L,H,nx⟩):JF X ops K fl (fuel+1) ls ⟨L,H,nx⟩:=by
 intro M ρ a a' w l fr hsub hnd hl hp h1 h2
 simp only[fsB,Bool.and_eq_true,Bool.not_eq_true'] at hf
 obtain⟨⟨⟨⟨hnl,hnf⟩,hf⟩,hap⟩,hs,hnd0⟩:=hf
 simp only[frB,ho,Bool.and_eq_true,Bool.not_eq_true'] at hf
 obtain⟨⟨_,h4⟩,e4⟩:=hf
 have hlt:i<ops.length:=(List.getElem?_eq_some_iff.1 ho).1
 have hif:i∉fr:=fun hc=>by simp at hnf;exact hnf (hsub i hc)
 have hed:=u9.1 h4
 have hapf:∀ g∈fr,∀ q,ops[g]?=some q→halfB ops q (⟨some d,op,ty,ps,af,none⟩:Oper)=true:=by
  intro g hg q hq
  simp only[apB,ho] at hap
  have:=List.all_eq_true.1 hap g (hsub g hg)
  rw[hq] at this
  simp only[Bool.or_eq_true] at this
  refine this.resolve_left fun hw=>?_
  obtain⟨e,he,hb,rfl⟩:=q0z.1 hw
  have:=(hed e (by simpa using he) hb).2
  rw[q1f] at this
  simp[hsub _ hg] at this
 obtain⟨hb,z,hz,hrun⟩:=z5j hX.t (o:=⟨some d,op,ty,ps,af,none⟩) e3 h hc h1 h2
 have hsel:∀ (j:Nat) (o:Oper) cs b,ops.toArray[j]?=some o→o.op≠.select cs b:=Region.noSelect_spec hs
 obtain⟨hx1,hx2⟩:=PutsR.exec (o:=⟨some d,op,ty,ps,af,none⟩) (hsel i _ · · (by simpa using ho)) hp fun g hg q hq=>(t6 (hapf g hg q hq)).1
 rw[show fuel+1+fr.length=(fuel+fr.length)+1 by omega]
 refine q4z (fun _ _ _ h=>q9i h) (i:=i) (oi:=⟨some d,op,ty,ps,af,none⟩) (v:=z) (by simpa using ho) hsel (q05 hnd0) (fuel+fr.length) l a w ?_ ?_ (.inl ⟨rfl,by rw[← hx1];exact hrun⟩) ?_
 ·intro j oj hj hne hun hno
  have hjl:j<ops.length:=by have:=(Array.getElem?_eq_some_iff.1 hj).1;simpa using this
  refine q4o e4 j oj (by simpa using hj) (by omega) ?_ hno
  rw[hl.getT hjl] at hun
  rw[Nat.zero_add,q1f]
  cases hc:ls.contains j with
  |false=>rfl
  |true=>
   rw[hc] at hun
   simp at hun
   simp[hsub _ hun]
 ·refine mem_ready.2 ⟨by rw[hl.getT hlt,hnl];rfl,_,by simpa using ho,fun e he hb=>?_⟩
  obtain⟨e1,e2⟩:=hed e (by simpa using he) hb
  rw[q1f,Bool.and_eq_true] at e2
  rw[hl.getT e1,e2.1]
  have:e.on∉fr:=fun hc=>by have:=e2.2;simp[hsub _ hc] at this
  simp[this]
 ·exact k M ρ _ (a'.put (some d) z) w _ fr hsub hnd (hl.setNew hlt hif) (PutsR.put (d:=some d) hp fun f hf o ho' e he hde=>(t6 (hapf f hf o ho')).2 e he hde)
   (j6 (d:=some d) (v:=v) h1) (h2.putO (d:=some d) (dstOk.spec (u0 hd)) hb hz)
def ftB(ops:List Oper)(ls fl:List Nat)(i d:Nat):Bool:=
 !ls.contains i&&!fl.contains i&&fl.all fun g=>match ops[g]? with|some q=>q.dst != some d|none=>true
theorem JF.float(i:Nat){d:Nat}{op:Op}{ty:TypeId}{ps:String}{af:Array Edge}{cs:List Prop}{v:AV}{L:List (Nat×AV)}{H:List (Nat×HO)}{nx:Nat}
  (hX:XOK X) (hf:ftB ops ls fl i d=true) (ho:ops[i]?=some ⟨some d,op,ty,ps,af,none⟩)
  (h:evq X.T op ⟨L,H,nx⟩=some (cs,v)) (hd:ltB d X.n=true) (hc:allP cs) (k:JF X ops K (i::fl) fuel (i::ls) ⟨(d,v)::L,H,nx⟩):JF X ops K fl (fuel+1) ls ⟨L,H,nx⟩:=by
 intro M ρ a a' w l fr hsub hnd hl hp h1 h2
 simp only[ftB,Bool.and_eq_true,Bool.not_eq_true'] at hf
 obtain⟨⟨hnl,hnf⟩,hds⟩:=hf
 have hif:i∉fr:=fun hc=>by simp at hnf;exact hnf (hsub i hc)
 obtain⟨hb,z,hz,_⟩:=q6t hX.t (o:=⟨some d,op,ty,ps,af,none⟩) h hc h1 h2
 have hp':PutsR ops (i::fr) a (a'.put (some d) z):=by
  refine⟨_,z,ho,PutsR.put (d:=some d) hp fun f hf o ho' e he hde=>?_⟩
  have:=List.all_eq_true.1 hds f (hsub f hf)
  rw[ho'] at this
  simp only[bne_iff_ne,ne_eq] at this
  exact this (he.trans hde.symm)
 have:=k M ρ a (a'.put (some d) z) w l (i::fr) (fun f hf=>by
  rcases List.mem_cons.1 hf with e|e
  ·exact e▸List.mem_cons_self
  ·exact List.mem_cons_of_mem _ (hsub f e)) (List.nodup_cons.2 ⟨hif,hnd⟩) (hl.float hnl) hp' (j6 (d:=some d) (v:=v) h1) (h2.putO (d:=some d) (dstOk.spec (u0 hd)) hb hz)
 rw[show fuel+1+fr.length=fuel+(i::fr).length by simp;omega]
 exact this
theorem StF.one{f:Nat}{r:List Nat}{d:Nat}{op:Op}{ty:TypeId}{ps:String}{af:Array Edge}{cs:List Prop}{v:AV}(ho:ops[f]?=some ⟨some d,op,ty,ps,af,none⟩)
  (h:evq X.T op s=some (cs,v)) (hl:lk s.L d=some v) (hd:ltB d X.n=true) (hc:allP cs) (k:StF X ops s r):StF X ops s (f::r):=
 ⟨⟨_,d,v,ho,rfl,hd,evq_nd h,hl,fun hT M ρ a w h1 h2=>let ⟨e1,z,e2,e3⟩:=q6t hT (o:=⟨some d,op,ty,ps,af,none⟩) h hc h1 h2;⟨e1,z,e2,.inl ⟨rfl,e3 w (Below.refl _ _)⟩⟩⟩,k⟩
theorem StF.nil:StF X ops s []:=trivial
theorem BrF.one{i:Nat}{r fl':List Nat}{o:Oper}(ho:ops[i]?=some o)(hf:(fl.filter fun f=>!waits o f)=fl')(h:JL X true ops (qN fun s'=>JF X ops K fl' fuel (i::ls) s') [o] s)(h':BrF X ops K fl fuel ls s r) :
  BrF X ops K fl fuel ls s (i::r):=⟨⟨o,fl',ho,hf,h⟩,h'⟩
theorem BrF.nil:BrF X ops K fl fuel ls s []:=trivial
def ndB(ops:List Oper)(ls fl is:List Nat):Bool:=
 (Region.noSelect ops.toArray&&ndAll ops)&&(rdI ops ls==is)&&(flB ops ls fl&&is.all (apB ops fl))
theorem q7f(i:Nat)(is:List Nat)(hX:XOK X)(hc:ndB ops ls fl (i::is)=true)(hst:StF X ops s fl)(hB:BrF X ops K fl fuel ls s (i::is)):JF X ops K fl (fuel+1) ls s:=by
 simp only[ndB,Bool.and_eq_true,beq_iff_eq] at hc
 exact j1h (i::is) hc.1.1.1 hc.1.1.2 hc.1.2 (by simp[hc.2]) hst hX (.inr ⟨fuel,rfl,hB⟩) (fun h=>by cases h)
theorem JF.done(hX:XOK X)(hc:ndB ops ls fl []=true)(hst:StF X ops s fl)(hK:K s):JF X ops K fl fuel ls s:=by
 simp only[ndB,Bool.and_eq_true,beq_iff_eq] at hc
 exact j1h [] hc.1.1.1 hc.1.1.2 hc.1.2 (by simp[hc.2]) hst hX (.inl rfl) (fun _=>hK)
end Ox
namespace Ox
open Go Go.RowKit
variable {X:Ctx}{s:S}{M:Mem}{ρ:Env}{a a':Act}{w w':World}{QA:Exit→S→Prop}{K:S→Prop}{all l:List Oper}{o:Oper}
section
variable {P:Program}{b:Frame}{k:List Item}{cs:List Frame}{c:Code}
theorem s6:step P (lone (b.atR a (.code (.scope c)::k)) cs w)=.next (lone (b.atR a (.code c::.inScope c::k)) cs w):=
 step_lone_go (by simp[stepG,stepG.exec,Frame.atR])
theorem q8h:step P (lone (b.atR a (.inScope c::k)) cs w)=.next (lone (b.atR a k) cs w):=
 step_lone_go (by simp[stepG,stepG.exec,Frame.atR])
end
theorem z40{F:Fence}{n:Nat}{P:Program}{Q:Exit→Act→World→Prop}{c:Code}(h:c.wpIn F n P (Exit.noGoto Q) a w):(Code.scope c).wpIn F n P Q a w:=by
 intro b k cs hro hb hr
 have h0:(lone (b.atR a (.code (.scope c)::k)) cs w).fenced P F:=fenced_calm hb hr rfl
 obtain⟨e,a₁,w₁,hq,harr⟩:=h b (.inScope c::k) cs hro hb hr
 cases e with
 |normal=>exact⟨.normal,a₁,w₁,hq,.head h0 s6 (StepsIn.trans harr (.one (fenced_calm hb hr rfl) q8h))⟩
 |exit id=>
  have hx:exitTo id (.inScope c::k)=exitTo id k:=by simp[exitTo]
  exact⟨.exit id,a₁,w₁,hq,fun k' hk=>.head h0 s6 (harr.1 k' (by rw[hx];exact hk)),
   fun hr' hk=>let ⟨k₁,h1,h2⟩:=harr.2 hr' (by rw[hx];exact hk);⟨k₁,h1,.head h0 s6 h2⟩⟩
 |goto l=>exact hq.elim
 |ret=>exact⟨_,a₁,w₁,hq,.of_steps (.one h0 s6) harr⟩
 |panic ch=>exact⟨_,a₁,w₁,hq,.of_steps (.one h0 s6) harr⟩
 |outgrown=>exact⟨_,a₁,w₁,hq,.of_steps (.one h0 s6) harr⟩
def qScope(QA:Exit→S→Prop):Exit→S→Prop
 |.goto _,_=>False
 |e,s=>QA e s
theorem JC.scope{c:Code}(h:JC X c (qScope QA) s):JC X (.scope c) QA s:=
 fun M ρ a w h1 h2=>z40 (wpIn_mono (h M ρ a w h1 h2) fun e a' w' ⟨M',ρ',s',k1,k2,k3⟩=>by
  cases e with
  |goto l=>exact k3.elim
  |_=>exact⟨M',ρ',s',k1,k2,k3⟩)
def svL(L:List (Nat×AV)):List Nat→List (Nat×AV)
 |[]=>[]
 |d::r=>match lk L d with
  |some v=>(d,v)::svL L r
  |none=>svL L r
theorem q8g{L:List (Nat×AV)}{p:Nat×AV}:∀ {r:List Nat},p∈svL L r→lk L p.1=some p.2
 |[],h=>by cases h
 |d::r,h=>by
  simp only[svL] at h
  split at h
  ·rename_i v hv
   rcases List.mem_cons.1 h with e|e
   ·subst e;exact hv
   ·exact q8g e
  ·exact q8g h
def noFr(n:Nat):List (Nat×HO)→Bool
 |[]=>true
 |(_,.fr i _)::r=>!(i==n)&&noFr n r
 |_::r=>noFr n r
theorem z0h{n l i:Nat}{L:List (Nat×AV)}:∀ {H:List (Nat×HO)},noFr n H=true→lk H l=some (.fr i L)→i≠n
 |[],_,h=>by simp[lk] at h
 |(k,o)::r,hn,h=>by
  simp only[lk] at h
  have hr:noFr n r=true∧(∀ j L',o=.fr j L'→j≠n):=by
   cases o<;>simp only[noFr,Bool.and_eq_true,Bool.not_eq_true',beq_eq_false_iff_ne] at hn<;>first|exact⟨hn,fun j L' e=>by cases e⟩|exact⟨hn.2,fun j L' e=>by injection e with e _;subst e;exact hn.1⟩
  split at h
  ·injection h with h;exact hr.2 i L h
  ·exact z0h hr.1 h
theorem j1n{X':Ctx}{l:Nat}{o:HO}(hE:X'.E=X.E)(hdp:X.dp≤X'.dp)(hup:∀ i,i<X.dp→X'.up i=X.up i)(h:o.ok X M ρ l w):o.ok X' M ρ l w:=by
 cases o<;>simp only[HO.ok,hE] at h ⊢<;>first|exact h|exact⟨by omega,fun d v hd=>by rw[hup _ h.1];exact h.2 d v hd⟩
theorem z5z{X':Ctx}{l:Nat}{o:HO}(hE:X'.E=X.E)(hdp:X'.dp=X.dp+1)(hup:∀ i,i<X.dp→X'.up i=X.up i)(hf:∀ i L,o=.fr i L→i≠X.dp)(h:o.ok X' M ρ l w):o.ok X M ρ l w:=by
 cases o with
 |fr i L=>
  simp only[HO.ok] at h ⊢
  have:=hf i L rfl
  have hi:i<X.dp:=by have:=h.1;omega
  exact⟨hi,fun d v hd=>by rw[← hup i hi];exact h.2 d v hd⟩
 |_=>simp only[HO.ok,hE] at h ⊢;exact h
abbrev Ctx.sub(X:Ctx)(M0:Mem)(n:Nat)(rd:Option Nat)(up:Nat→Nat→Value):Ctx:=⟨X.P,X.T,X.ET,X.MT,X.E,M0,n,rd,up,X.dp+1⟩
def upd1(up:Nat→Nat→Value)(i:Nat)(u:Nat→Value):Nat→Nat→Value:=fun j=>if j=i then u else up j
theorem SAT.enter(h:SAT X M ρ s w){Lf L0:List (Nat×AV)}{u:Nat→Value}{n:Nat}{rd:Option Nat}(hb:∀ p∈Lf,p.2.bd s.nx)(hv:∀ d v,lk Lf d=some v→v.rv M ρ (u d)) :
  SAT (X.sub M n rd (upd1 X.up X.dp u)) M ρ ⟨L0,(s.nx,.fr X.dp Lf)::s.H,s.nx+1⟩ w:=by
 have hlk:∀ l o,lk ((s.nx,HO.fr X.dp Lf)::s.H) l=some o→(l=s.nx∧o=.fr X.dp Lf)∨(l<s.nx∧lk s.H l=some o):=by
  intro l o hl
  simp only[lk] at hl
  split at hl
  ·rename_i e;injection hl with hl;exact .inl ⟨e.symm,hl.symm⟩
  ·exact .inr ⟨(h.own l o hl).1,hl⟩
 refine⟨h.below,fun _ _ h=>h,fun _ _=>rfl,h.mem,fun l o hl=>?_,fun l l' o o' b hl hl' hb1 hb2=>?_,fun l o b hl hb1=>?_⟩
 ·rcases hlk l o hl with⟨rfl,rfl⟩|⟨hlt,hl⟩
  ·refine⟨Nat.lt_succ_self _,fun p hp=>k9 (Nat.le_succ _) (hb p hp),?_⟩
   simp only[HO.ok]
   exact⟨Nat.lt_succ_self _,fun d v hd=>by show v.rv M ρ (upd1 X.up X.dp u X.dp d);simp only[upd1,if_pos];exact hv d v hd⟩
  ·obtain⟨e1,e2,e3⟩:=h.own l o hl
   exact⟨Nat.lt_succ_of_lt e1,q4x (Nat.le_succ _) e2,j1n (X:=X) (X':=X.sub M n rd (upd1 X.up X.dp u)) rfl (Nat.le_succ _) (fun i hi=>by show upd1 X.up X.dp u i=X.up i;simp only[upd1];rw[if_neg (by omega)]) e3⟩
 ·rcases hlk l o hl with⟨rfl,rfl⟩|⟨hlt,hl⟩
  ·cases hb1
  ·rcases hlk l' o' hl' with⟨rfl,rfl⟩|⟨hlt',hl'⟩
   ·cases hb2
   ·exact h.apart l l' o o' b hl hl' hb1 hb2
 ·rcases hlk l o hl with⟨rfl,rfl⟩|⟨hlt,hl⟩
  ·cases hb1
  ·exact h.notM l o b hl hb1
theorem SAT.leave(h:SAT X M ρ s w){s':S}{M':Mem}{ρ':Env}{n:Nat}{rd:Option Nat}{u:Nat→Value}(h':SAT (X.sub M n rd (upd1 X.up X.dp u)) M' ρ' s' w'){H':List (Nat×HO)}(hsub:∀ l o,lk H' l=some o→lk s'.H l=some o)
  (hno:noFr X.dp H'=true) (L:List (Nat×AV)):SAT X M' ρ' ⟨L,H',s'.nx⟩ w':=by
 refine⟨h'.below,fun b o hb=>h'.msub b o (h.msub b o hb),fun b hb=>?_,h'.mem,fun l o hl=>?_,fun l l' o o' b hl hl'=>h'.apart l l' o o' b (hsub l o hl) (hsub l' o' hl'),fun l o b hl=>h'.notM l o b (hsub l o hl)⟩
 ·have e1:M' b=M b:=h'.mnew b hb
  rw[e1];exact h.mnew b hb
 ·obtain⟨e1,e2,e3⟩:=h'.own l o (hsub l o hl)
  exact⟨e1,e2,z5z (X:=X) (X':=X.sub M n rd (upd1 X.up X.dp u)) rfl rfl (fun i hi=>by show upd1 X.up X.dp u i=X.up i;simp only[upd1];rw[if_neg (by omega)]) (fun i L' e=>by subst e;exact z0h hno hl) e3⟩
theorem q24{s':S}{M':Mem}{ρ':Env}{n l':Nat}{rd:Option Nat}{u:Nat→Value}(h':SAT (X.sub M n rd (upd1 X.up X.dp u)) M' ρ' s' w'){L':List (Nat×AV)}(hl:lk s'.H l'=some (.fr X.dp L')) :
  ∀ d v,lk L' d=some v→v.bd s'.nx∧v.rv M' ρ' (u d):=by
 intro d v hd
 obtain⟨_,e2,e3⟩:=h'.own l' _ hl
 simp only[HO.ok] at e3
 have:=e3.2 d v hd
 simp only[upd1,if_pos] at this
 exact⟨e2 _ (p4 hd),this⟩
theorem q5s(h1:SAT X M ρ s w)(h2:REG X M ρ s a){s':S}{M':Mem}{ρ':Env}{n:Nat}{rd:Option Nat}{up:Nat→Nat→Value}(h':SAT (X.sub M n rd up) M' ρ' s' w'){L':List (Nat×AV)}{H':List (Nat×HO)}
  (hv:∀ d v,lk L' d=some v→v.bd s'.nx∧v.rv M' ρ' (a.tmps.getD d Go.undef)):REG X M' ρ' ⟨L',H',s'.nx⟩ a:=
 ⟨h2.size,let ⟨Ds,e1,e2,e3,e4⟩:=h2.defers;⟨Ds,e1,e2,fun D hD=>⟨(e3 D hD).1,h'.msub D _ (e3 D hD).2⟩,e4⟩,hv⟩
theorem q4k{α:Type}{H:List (Nat×α)}{n:Nat}:∀ l o,lk (del H n) l=some o→lk H l=some o:=by
 intro l o h
 rw[q6f] at h
 split at h
 ·cases h
 ·exact h
def resI(L:List (Nat×AV)):List ResultVar→Option AV
 |[]=>some .anil
 |.tmp d::rs=>(lk L d).bind fun v=>(resI L rs).map fun r=>.acons v r
 |_=>none
def resV:AV→AV
 |.acons a .anil=>a
 |l=>.tup l
theorem q7s{P:Program}(h2:REG X M ρ s a):∀ {rs:List ResultVar} {r:AV},resI s.L rs=some r→r.bd s.nx∧∃ vs,r.rvs M ρ vs∧(rs.mapM (resOne a.tmps)).run P w=.ok vs w
 |[],r,h=>by
  simp only[resI,Option.some.injEq] at h;subst h
  exact⟨trivial,[],by simp[AV.rvs],rfl⟩
 |.tmp d::rs,r,h=>by
  simp only[resI,Option.bind_eq_some_iff,Option.map_eq_some_iff] at h
  obtain⟨v,hv,r',hr,rfl⟩:=h
  obtain⟨b1,vs,e1,e2⟩:=q7s (P:=P) h2 hr
  obtain⟨b2,e3⟩:=h2.reg d v hv
  refine⟨⟨b2,b1⟩,a.tmps.getD d Go.undef::vs,by simp only[AV.rvs];exact⟨_,_,e3,e1,rfl⟩,?_⟩
  simp only[List.mapM_cons,Sem.run_bind,resOne,Sem.run_pure,Result.andThen_ok,e2]
 |.cell ..::rs,r,h=>by simp[resI] at h
theorem z45{P:Program}{fn:Func}{r:AV}(h2:REG X M ρ s a)(h:resI s.L fn.results.toList=some r):(resV r).bd s.nx∧∃ v,(resV r).rv M ρ v∧(results fn a.tmps).run P w=.ok v w:=by
 obtain⟨hb,vs,hvs,hrun⟩:=q7s (P:=P) (w:=w) h2 h
 have hr:=q20 hrun
 unfold resV
 split
 ·rename_i x
  simp only[AV.rvs] at hvs
  obtain⟨v,r',k5,rfl,rfl⟩:=hvs
  exact⟨hb.1,v,k5,by simpa using hr⟩
 ·rename_i hne
  refine⟨hb,.tuple vs.toArray,by simp only[AV.rv];exact⟨vs,hvs,rfl⟩,?_⟩
  have hsz:vs.toArray.size≠1:=by
   intro hsz
   cases r with
   |acons x z=>
    simp only[AV.rvs] at hvs
    obtain⟨v,r',k5,k6,rfl⟩:=hvs
    have:r'=[]:=by simpa using hsz
    subst this
    cases z with
    |anil=>exact hne x rfl
    |acons=>simp[AV.rvs] at k6
    |_=>simp only[AV.rvs] at k6
   |anil=>simp only[AV.rvs] at hvs;subst hvs;simp at hsz
   |_=>simp only[AV.rvs] at hvs
  rwa[dif_neg hsz] at hr
theorem j0r{args:AV}{vs:List Value}{n:Nat}(h:args.rvs M ρ vs)(hb:args.bd n):∀ {i d:Nat} {v:AV},lk (argL args i) d=some v→v.bd n∧i≤d∧∃ u,vs[d-i]?=some u∧v.rv M ρ u:=by
 induction args generalizing vs with
 |acons x y _ ihy=>
  intro i d v hl
  simp only[AV.rvs] at h
  obtain⟨u,r,k1,k2,rfl⟩:=h
  simp only[argL,lk] at hl
  split at hl
  ·rename_i e;subst e
   injection hl with hl;subst hl
   exact⟨hb.1,Nat.le_refl _,u,by simp,k1⟩
  ·obtain⟨e1,e2,u',e3,e4⟩:=ihy k2 hb.2 hl
   refine⟨e1,by omega,u',?_,e4⟩
   rw[show d-i=(d-(i+1))+1 by omega,List.getElem?_cons_succ];exact e3
 |_=>intro i d v hl;simp[argL,lk] at hl
theorem REG.args{args:AV}{vs:List Value}{n k:Nat}{H:List (Nat×HO)}(hvs:args.rvs M ρ vs)(hbd:args.bd k)(hX:X.n=n)(hn:argN args≤n) :
  REG X M ρ ⟨argL args 0,H,k⟩ {tmps:=vs.toArray++Array.replicate (n-vs.toArray.size) Go.undef,defers:=[]}:=by
 have hlen:=z4p hvs
 refine⟨by simp;omega,⟨[],rfl,List.nodup_nil,by simp,.inl rfl⟩,fun d v hd=>?_⟩
 obtain⟨e1,e2,u,e3,e4⟩:=j0r hvs hbd hd
 refine⟨e1,?_⟩
 rw[Nat.sub_zero] at e3
 have hd':d<vs.length:=by
  rcases Nat.lt_or_ge d vs.length with h|h
  ·exact h
  ·rw[List.getElem?_eq_none h] at e3;cases e3
 have:(vs.toArray++Array.replicate (n-vs.toArray.size) Go.undef).getD d Go.undef=u:=by
  rw[Array.getD_eq_getD_getElem?,Array.getElem?_append_left (by simpa using hd')]
  simp[e3]
 rw[this];exact e4
def inlQ(X:Ctx)(rs:List ResultVar)(k:AV→List (Nat×AV)→List (Nat×HO)→Nat→Prop)(e:Exit)(s':S):Prop:=
 (e=.ret∨e=.normal)∧∃ l' L' r,lk s'.H l'=some (.fr X.dp L')∧resI s'.L rs=some r∧noFr X.dp (del s'.H l')=true∧k (resV r) L' (del s'.H l') s'.nx
def frAt:List (Nat×HO)→Nat→Option Nat
 |[],_=>none
 |(l,.fr i _)::r,n=>match Nat.beq i n with|true=>some l|false=>frAt r n
 |_::r,n=>frAt r n
theorem z32{X:Ctx}{rs:List ResultVar}{k:AV→List (Nat×AV)→List (Nat×HO)→Nat→Prop}{L L':List (Nat×AV)}{H:List (Nat×HO)}{nx l':Nat}{r:AV}(h0:frAt H X.dp=some l')(h1:lk H l'=some (.fr X.dp L'))(h2:resI L rs=some r)
  (h3:noFr X.dp (del H l')=true) (h:k (resV r) L' (del H l') nx):inlQ X rs k .ret ⟨L,H,nx⟩:=⟨.inl rfl,l',L',r,h1,h2,h3,h⟩
theorem inlQ.nor{X:Ctx}{rs:List ResultVar}{k:AV→List (Nat×AV)→List (Nat×HO)→Nat→Prop}{L L':List (Nat×AV)}{H:List (Nat×HO)}{nx l':Nat}{r:AV}(h0:frAt H X.dp=some l')(h1:lk H l'=some (.fr X.dp L'))(h2:resI L rs=some r)
  (h3:noFr X.dp (del H l')=true) (h:k (resV r) L' (del H l') nx):inlQ X rs k .normal ⟨L,H,nx⟩:=⟨.inr rfl,l',L',r,h1,h2,h3,h⟩
theorem z84{f:FuncId}{fn:Func}{c:Code}{args:AV}{vs:List Value}{Lf:List (Nat×AV)}{u:Nat→Value}{k:AV→List (Nat×AV)→List (Nat×HO)→Nat→Prop}{R:Ending→World→Prop}(hf:X.P.funcs[f]?=some fn)(hb:fn.body=some c)(hn:argN args≤fn.ntmps)
  (h1:SAT X M ρ s w) (hbd:args.bd s.nx) (hvs:args.rvs M ρ vs) (hLb:∀ p∈Lf,p.2.bd s.nx) (hLv:∀ d v,lk Lf d=some v→v.rv M ρ (u d))
  (h:∀ M0 up,JC (X.sub M0 fn.ntmps none up) c (inlQ X fn.results.toList k) ⟨argL args 0,(s.nx,.fr X.dp Lf)::s.H,s.nx+1⟩)
  (hR:∀ M' ρ' s' l' L' r v w',SAT (X.sub M fn.ntmps none (upd1 X.up X.dp u)) M' ρ' s' w'→lk s'.H l'=some (.fr X.dp L')→noFr X.dp (del s'.H l')=true→k r L' (del s'.H l') s'.nx→r.bd s'.nx→r.rv M' ρ' v→R (.returned v) w') :
  Calls X.P f vs.toArray w R:=by
 refine(callsIn_wide (n:=0)).1 (callsIn_of_wp_marks hf hb trivial ?_ rfl)
 have hs:=h1.enter (L0:=argL args 0) (n:=fn.ntmps) (rd:=none) hLb hLv
 have hr:REG (X.sub M fn.ntmps none (upd1 X.up X.dp u)) M ρ ⟨argL args 0,(s.nx,.fr X.dp Lf)::s.H,s.nx+1⟩ _:=REG.args hvs (k9 (Nat.le_succ _) hbd) rfl hn
 refine wpIn_mono (h M (upd1 X.up X.dp u) M ρ _ w hs hr) ?_
 rintro e a' w' ⟨M',ρ',s',k1,k2,hex,l',L',r,e1,e2,e3,e4⟩
 obtain⟨Ds,hds,hnd,hDs,hfr⟩:=k2.defers
 have h0:∀ D∈Ds,M D=none:=fun D hD=>by
  rcases hfr with e|⟨_,e⟩
  ·subst e;cases hD
  ·exact e D hD
 have fin:LeavesInM Fence.wide 0 X.P fn a'.tmps R a'.defers .returning w':=by
  rw[hds]
  refine q38 hnd (fun D hD=>k1.mem _ _ (hDs D hD).2) fun w'' hbel hkeep=>?_
  obtain⟨hle,k1'⟩:=k1.taken h0 hDs hbel hkeep
  have k2':REG (X.sub M fn.ntmps none (upd1 X.up X.dp u)) (M'.without Ds) ρ' s' {a' with defers:=[]}:=⟨k2.size,⟨[],rfl,List.nodup_nil,by simp,.inl rfl⟩,fun d v hd=>⟨(k2.reg d v hd).1,w5 hle (Env.upTo.refl ρ' s'.nx) (k2.reg d v hd).1 (k2.reg d v hd).2⟩⟩
  obtain⟨hrb,v,hrv,hrun⟩:=z45 (P:=X.P) (w:=w'') k2' e2
  exact⟨v,hrun,hR (M'.without Ds) ρ' s' l' L' _ v w'' k1' e1 e3 e4 hrb hrv⟩
 rcases hex with rfl|rfl
 ·exact fin
 ·exact fin
theorem svL_spec(h2:REG X M ρ s a)(Kp:List Nat):(∀ p∈svL s.L Kp,p.2.bd s.nx)∧∀ d v,lk (svL s.L Kp) d=some v→v.rv M ρ (a.tmps.getD d Go.undef):=
 ⟨fun p hp=>(h2.reg _ _ (q8g hp)).1,fun d v hd=>(h2.reg _ _ (q8g (p4 hd))).2⟩
theorem JL.inl(Kp:List Nat){f:FuncId}{fn:Func}{c:Code}{fst cap az:AV}{cs1 cs2:List Prop}{fo:Operand}{args:Array Operand}{tys:Array TypeId}(hg:o.guard=none)(hop:o.op=.call {callee:=.value fo,args:=args,argTypes:=tys})
  (hu:opd s.L fo=some (cs1,.fn f fst cap)) (ha:opds s.L args.toList=some (cs2,az)) (hc:allP (cs1++cs2)) (hf:X.P.funcs[f]?=some fn) (hb:fn.body=some c) (hcall:∀ az w,(callFunc f az).run X.P w=.ok (.enter f az) w)
  (hn:argN (apA fst (apA az cap))≤fn.ntmps) (hd:dstOk X.n o.dst)
  (h:∀ M0 up,JC (X.sub M0 fn.ntmps none up) c (inlQ X fn.results.toList fun r L H nx=>JL X true all QA l (putS o.dst r ⟨L,H,nx⟩)) ⟨argL (apA fst (apA az cap)) 0,(s.nx,.fr X.dp (svL s.L Kp))::s.H,s.nx+1⟩):JL X true all QA (o::l) s:=by
 intro M ρ a w h1 h2
 rw[q9] at hc
 obtain⟨hub,eu⟩:=z7 hu hc.1 h2
 simp only[AV.rv] at eu
 obtain⟨fs,ks,k1,k2,k3⟩:=eu
 obtain⟨hab,ea⟩:=q2a h2 ha hc.2
 have hvs:=q9p k1 (q9p ea k2)
 have hbd:(apA fst (apA az cap)).bd s.nx:=z4t hub.1 (z4t hab hub.2)
 have hrun:(execOp a.eval o).run X.P w=.ok (.enter f (fs++(args.toList.map a.eval++ks)).toArray) w:=by
  have hmap:Array.map a.eval args=(List.map a.eval args.toList).toArray:=by rw[← Array.toList_map]
  obtain⟨dst,op,ty,pos,after,guard⟩:=o
  simp only at hop
  subst hop
  simp only[execOp,resolve,k3,Deferred.ofValue,Sem.run_bind,Sem.run_pure,Result.andThen_ok,invoke,hmap]
  rw[← hcall]
  simp
 obtain⟨sv1,sv2⟩:=svL_spec h2 Kp
 refine j7 (v5 hg) (s5 (by rw[hop];rfl) hrun (z84 (R:=fun e w''=>∃ v,e=.returned v∧wpListIn X.fn 0 X.P all.toArray (conc X QA) l (a.put o.dst v) w'') hf hb hn h1 hbd hvs sv1 sv2 h ?_) fun e w'' hr=>hr)
 intro M' ρ' s' l' L' r v w' q1 q2 q3 q4 q5 q6
 have b1:=h1.leave q1 (H':=del s'.H l') q4k q3 L'
 have b2:REG X M' ρ' ⟨L',del s'.H l',s'.nx⟩ a:=q5s h1 h2 q1 (q24 q1 q2)
 exact⟨v,rfl,q4 M' ρ' _ w' (j6 b1) (b2.putO hd.spec q5 q6)⟩
end Ox
namespace Ox
open Go Go.RowKit
variable {X:Ctx}{s:S}{M:Mem}{ρ:Env}{a a':Act}{w w':World}{QA:Exit→S→Prop}{K:S→Prop}{all l:List Oper}{o:Oper}
def setPs:List Tmp→AV→List (Nat×AV)→Option (List (Nat×AV))
 |[],.anil,L=>some L
 |p::ps,.acons a r,L=>setPs ps r ((p,a)::L)
 |_,_,_=>none
theorem q51{n nx:Nat}:∀ {ps:List Tmp} {az:AV} {vs:List Value} {L L0:List (Nat×AV)} {tm:Array Value},setPs ps az L=some L0→(∀ p∈ps,p<n)→az.bd nx→az.rvs M ρ vs→tm.size=n →
  (∀ d v,lk L d=some v→v.bd nx∧v.rv M ρ (tm.getD d Go.undef))→vs.length=ps.length∧((ps.zip vs).foldl (fun t (q:Tmp×Value)=>t.setIfInBounds q.1 q.2) tm).size=n ∧
  ∀ d v,lk L0 d=some v→v.bd nx∧v.rv M ρ (((ps.zip vs).foldl (fun t (q:Tmp×Value)=>t.setIfInBounds q.1 q.2) tm).getD d Go.undef)
 |[],az,vs,L,L0,tm,h,hp,hb,hv,hs,hL=>by
  cases az with
  |anil=>simp only[setPs,Option.some.injEq] at h;subst h;simp only[AV.rvs] at hv;subst hv;exact⟨rfl,hs,hL⟩
  |_=>simp[setPs] at h
 |p::ps,az,vs,L,L0,tm,h,hp,hb,hv,hs,hL=>by
  cases az with
  |acons x r=>
   simp only[setPs] at h
   simp only[AV.rvs] at hv
   obtain⟨v,vr,h1,h2,rfl⟩:=hv
   have hpn:=hp p List.mem_cons_self
   obtain⟨e1,e2,e3⟩:=q51 (tm:=tm.setIfInBounds p v) h (fun q hq=>hp q (List.mem_cons_of_mem _ hq)) hb.2 h2 (by simp[hs]) (fun d y hd=>by
    simp only[lk] at hd
    by_cases e:p=d
    ·subst e
     rw[if_pos rfl] at hd;injection hd with hd;subst hd
     refine⟨hb.1,?_⟩
     rw[Array.getD_eq_getD_getElem?,Array.getElem?_setIfInBounds_self_of_lt (by rw[hs];exact hpn)]
     exact h1
    ·rw[if_neg e] at hd
     have:=hL d y hd
     rw[Array.getD_eq_getD_getElem?,Array.getElem?_setIfInBounds_ne e,← Array.getD_eq_getD_getElem?]
     exact this)
   exact⟨by simp[e1],by simpa using e2,by simpa using e3⟩
  |_=>simp[setPs] at h
def jumpOf:Exit→Option (Option Code)
 |.normal=>some none
 |.ret=>some (some .ret)
 |.exit id=>some (some (.exit id))
 |_=>none
theorem z0v(w:World)(l:Nat)(o:Obj):w.grownBy (w.putObj l o) (some l):=⟨rfl,rfl,rfl,by simp,fun k _ hk=>World.putObj_heap_other (fun e=>hk (by rw[e]))⟩
theorem SAT.turn(h:SAT X M ρ s w){lab:Nat}{st st':LoopState}{pe pe':Option Code}{ps:Array Tmp}{az bd:Code}{n:Nat}{LO:List (Nat×AV)}(hl:lk s.H lab=some (.loop st pe ps az bd n LO)) :
  ∃ fn tm D,w.heap[ρ.blk lab]?=some (.loop ⟨st,pe,fn,tm,ps,az,bd,D⟩)∧tm.size=n∧(∀ d v,lk LO d=some v→v.bd s.nx∧v.rv M ρ (tm.getD d Go.undef)) ∧
   SAT X M ρ ⟨s.L,updH s.H lab (.loop st' pe' ps az bd n LO),s.nx⟩ (w.putObj (ρ.blk lab) (.loop ⟨st',pe',fn,tm,ps,az,bd,D⟩)):=by
 obtain⟨e1,e2,e3⟩:=h.own lab _ hl
 have e3':=e3
 simp only[HO.ok] at e3
 obtain⟨h1,fn,tm,D,h2,h3,h4⟩:=e3
 refine⟨fn,tm,D,h2,h3,fun d v hd=>⟨e2 _ (p4 hd),h4 d v hd⟩,h.upd (o:=.loop st pe ps az bd n LO) hl (z0v _ _ _) rfl e2 ?_⟩
 simp only[HO.ok]
 exact⟨h1,fn,tm,D,World.putObj_heap_same (Array.getElem?_eq_some_iff.1 h2).1,h3,h4⟩
theorem q7z{α:Type}{L:List (Nat×α)}{n d:Nat}{v:α}(h:lk (del L n) d=some v):d≠n∧lk L d=some v:=by
 rw[q6f] at h
 split at h
 ·cases h
 ·rename_i e;exact⟨fun e'=>e e'.symm,h⟩
def endJ(QA:Exit→S→Prop)(s:S):Option Code→Prop
 |none=>QA .normal s
 |some .ret=>QA .ret s
 |some (.exit id)=>QA (.exit id) s
 |_=>False
theorem SAT.mark(h:SAT X M ρ s w):SAT X (fun b=>if b=w.heap.size then some (.deferred (some [])) else M b) ρ s (w.alloc (.deferred (some [])))∧M.le (fun b=>if b=w.heap.size then some (.deferred (some [])) else M b) ∧
  (∀ b o,M b=some o→(if b=w.heap.size then some (.deferred (some [])) else M b)=some o):=by
 have hlt:∀ b o,M b=some o→b<w.heap.size:=fun b o hm=>(Array.getElem?_eq_some_iff.1 (h.mem b o hm)).1
 have hful:∀ b o,M b=some o→(if b=w.heap.size then some (Obj.deferred (some [])) else M b)=some o:=fun b o hm=>by rw[if_neg (by have:=hlt b o hm;omega)];exact hm
 have hle:M.le (fun b=>if b=w.heap.size then some (.deferred (some [])) else M b):=fun b c ty fz hm=>hful b _ hm
 have hb:Below w.heap.size w (w.alloc (.deferred (some []))):=(Below.refl _ _).alloc (Nat.le_refl _) _
 have h':=h.later hb
 have hE:X.E.heap.size≤w.heap.size:=h.below.size
 refine⟨⟨h'.below,fun b o hm=>hful b o (h.msub b o hm),fun b hlt'=>?_,fun b o hm=>?_,fun l o hl=>?_,h.apart,fun l o b hl hat=>?_⟩,hle,hful⟩
 ·show(if b=w.heap.size then _ else _)=_
  rw[if_neg (by omega)];exact h.mnew b hlt'
 ·have hm':(if b=w.heap.size then some (Obj.deferred (some [])) else M b)=some o:=hm
  split at hm'
  ·rename_i e;injection hm' with hm';subst hm' e;exact World.alloc_heap_new w _
  ·exact h'.mem b o hm'
 ·obtain⟨e1,e2,e3⟩:=h'.own l o hl
  exact⟨e1,e2,q35 hle (Env.upTo.refl ρ s.nx) e1 e2 e3⟩
 ·show(if b=w.heap.size then _ else _)=_
  have:=(p9 (h.own l o hl).2.2 hat).2
  rw[if_neg (by omega)];exact h.notM l o b hl hat
theorem z6a{F:Fence}{n:Nat}{P:Program}{c:Code}{s':S}{M':Mem}{ρ':Env}{a':Act}{w':World}(h1:SAT X M' ρ' s' w')(h2:REG X M' ρ' s' a')(h:endJ QA s' (some c)):c.wpIn F n P (conc X QA) a' w':=by
 cases c with
 |ret=>exact wpIn_ret ⟨M',ρ',s',h1,h2,h⟩
 |exit id=>exact wpIn_exit ⟨M',ρ',s',h1,h2,h⟩
 |_=>exact h.elim
theorem z6z{g:Operand}{f:FuncId}{ks:List Value}{lb:Nat}{w:World}(hg:a.eval g=.func (.func f) #[] ks.toArray)(hcall:∀ az w,(callFunc f az).run X.P w=.ok (.enter f az) w) :
  (resolve a.eval (rangeCall g lb) 0).run X.P w=.ok {target:=.fn (.func f) ks.toArray,args:=#[.func (.yield lb) #[] #[]]} w ∧
  (invoke (.fn (.func f) ks.toArray) #[.func (.yield lb) #[] #[]]).run X.P w=.ok (.enter f (#[.func (.yield lb) #[] #[]]++ks.toArray)) w:=by
 constructor
 ·simp only[resolve,hg]
  simp[go_sem]
 ·simp[invoke,go_sem,hcall]
end Ox
namespace Ox
open Go Go.RowKit
variable {X:Ctx}{s:S}{M:Mem}{ρ:Env}{a a':Act}{w w':World}{QA:Exit→S→Prop}{K:S→Prop}{all l:List Oper}{o:Oper}
variable {L L':List (Nat×AV)}{H H':List (Nat×HO)}{nx nx' d:Nat}{op:Op}{ty:TypeId}{ps:String}{af:Array Edge}{cs cs1 cs2:List Prop}{v:AV}{g:Bool}{gg:Nat×Bool}{dd:Option Nat}
theorem JL.gT(hg:gOf all s.L (some gg)=some g)(hgt:g=true)(k:JL X true all QA (⟨dd,op,ty,ps,af,none⟩::l) s):JL X true all QA (⟨dd,op,ty,ps,af,some gg⟩::l) s:=by
 intro M ρ a w h1 h2
 have hw:=(q0k (o:=⟨dd,op,ty,ps,af,some gg⟩) hg h2).trans hgt
 have:=k M ρ a w h1 h2
 unfold wpListIn at this
 rw[if_pos (v5 rfl)] at this
 exact j7 hw this
theorem JL.pickT{c x y:Operand}{b:Bool}(hc:opd L c=some (cs1,.val .bool b))(hb:b=true)(hx:opd L x=some (cs2,v))(hd:ltB d X.n=true)(h1:allP cs1)(h2:allP cs2)(k:JL X true all QA l ⟨(d,v)::L,H,nx⟩) :
  JL X true all QA (⟨some d,.pick c x y,ty,ps,af,none⟩::l) ⟨L,H,nx⟩:=by
 intro M ρ a w s1 s2
 have e1:=(z7 hc h1 s2).2
 rw[m8] at e1
 obtain⟨e2,e3⟩:=z7 hx h2 s2
 refine j7 (v5 rfl) (v6 (v:=a.eval x) rfl ?_ (k M ρ _ w (j6 (d:=some d) s1) (s2.putO (d:=some d) (dstOk.spec (u0 hd)) e2 e3)))
 simp only[execOp,e1,hb,Sem.run_pure]
 rfl
theorem JL.pickF{c x y:Operand}{b:Bool}(hc:opd L c=some (cs1,.val .bool b))(hb:b=false)(hy:opd L y=some (cs2,v))(hd:ltB d X.n=true)(h1:allP cs1)(h2:allP cs2)(k:JL X true all QA l ⟨(d,v)::L,H,nx⟩) :
  JL X true all QA (⟨some d,.pick c x y,ty,ps,af,none⟩::l) ⟨L,H,nx⟩:=by
 intro M ρ a w s1 s2
 have e1:=(z7 hc h1 s2).2
 rw[m8] at e1
 obtain⟨e2,e3⟩:=z7 hy h2 s2
 refine j7 (v5 rfl) (v6 (v:=a.eval y) rfl ?_ (k M ρ _ w (j6 (d:=some d) s1) (s2.putO (d:=some d) (dstOk.spec (u0 hd)) e2 e3)))
 simp only[execOp,e1,hb,Sem.run_pure]
 rfl
theorem q7g{n i:Nat}{L:List (Nat×AV)}(h:bdL n L):HO.bd n (.fr i L):=fun p hp=>q9n h p.1 p.2 hp
theorem endJ.n(h:QA .normal s):endJ QA s none:=h
theorem endJ.r(h:QA .ret s):endJ QA s (some .ret):=h
theorem endJ.e{id:Nat}(h:QA (.exit id) s):endJ QA s (some (.exit id)):=h
end Ox
namespace Ox
open Go Go.RowKit
variable {X:Ctx}{s:S}{M:Mem}{ρ:Env}{a a':Act}{w w':World}{QA:Exit→S→Prop}{K:S→Prop}{all l:List Oper}{md:Bool}{o:Oper}{ops:List Oper}{ls fl fr:List Nat}{fuel:Nat}
variable {L L':List (Nat×AV)}{H H':List (Nat×HO)}{nx nx' d:Nat}{op:Op}{ty:TypeId}{ps:String}{af:Array Edge}{cs cs1 cs2:List Prop}{v:AV}{g:Bool}{gg:Nat×Bool}{dd:Option Nat}
theorem r7(hX:XOK X)(h:evb X.T op ⟨L,H,nx⟩=some (cs,v))(hd:ltB d X.n=true)(k:JL X md all QA l ⟨(d,v)::L,H,nx⟩)(hc:allP cs:=by(first|exact trivial|(try dsimp only[allP,inK,idxC,loC,lohiC,fullC,underG,List.append,List.nil_append,List.cons_append,Ty.den,Ty.dflt,Int.toNat_natCast,List.length_cons,List.length_nil] at *);first|omega|((repeat' (first|exact trivial|assumption|refine And.intro ?_ ?_|exact fun h=>h|(intro hpk;first|exact hpk|simp only[wantB,hpk,Bool.not_false,Bool.not_true])))<;>omega)|fail)):JL X md all QA (⟨some d,op,ty,ps,af,none⟩::l) ⟨L,H,nx⟩:=JL.q1 hX h hd hc k
theorem o5(hX:XOK X)(h:evm X.T X.ET op ⟨L,H,nx⟩=some (cs,v,⟨L',H',nx'⟩))(hd:ltB d X.n=true)(k:JL X true all QA l ⟨(d,v)::L',H',nx'⟩)(hc:allP cs:=by(first|exact trivial|(try dsimp only[allP,inK,idxC,loC,lohiC,fullC,underG,List.append,List.nil_append,List.cons_append,Ty.den,Ty.dflt,Int.toNat_natCast,List.length_cons,List.length_nil] at *);first|omega|((repeat' (first|exact trivial|assumption|refine And.intro ?_ ?_|exact fun h=>h|(intro hpk;first|exact hpk|simp only[wantB,hpk,Bool.not_false,Bool.not_true])))<;>omega)|fail)):JL X true all QA (⟨some d,op,ty,ps,af,none⟩::l) ⟨L,H,nx⟩:=JL.m1 hX h hd hc k
theorem JL.M0(hX:XOK X)(h:evm X.T X.ET op ⟨L,H,nx⟩=some (cs,v,⟨L',H',nx'⟩))(k:JL X true all QA l ⟨L',H',nx'⟩)(hc:allP cs:=by(first|exact trivial|(try dsimp only[allP,inK,idxC,loC,lohiC,fullC,underG,List.append,List.nil_append,List.cons_append,Ty.den,Ty.dflt,Int.toNat_natCast,List.length_cons,List.length_nil] at *);first|omega|((repeat' (first|exact trivial|assumption|refine And.intro ?_ ?_|exact fun h=>h|(intro hpk;first|exact hpk|simp only[wantB,hpk,Bool.not_false,Bool.not_true])))<;>omega)|fail)):JL X true all QA (⟨none,op,ty,ps,af,none⟩::l) ⟨L,H,nx⟩:=JL.m0 hX h hc k
theorem q3c{f:FuncId}{args r:AV}(h:callA X.T op ⟨L,H,nx⟩=some (cs,f,args))(hf:Fn X.P f args (·=r))(hr:r.scal=true)(hrb:r.bd 0)(hd:ltB d X.n=true)(k:JL X md all QA l ⟨(d,r)::L,H,nx⟩)(hc:allP cs:=by(first|exact trivial|(try dsimp only[allP,inK,idxC,loC,lohiC,fullC,underG,List.append,List.nil_append,List.cons_append,Ty.den,Ty.dflt,Int.toNat_natCast,List.length_cons,List.length_nil] at *);first|omega|((repeat' (first|exact trivial|assumption|refine And.intro ?_ ?_|exact fun h=>h|(intro hpk;first|exact hpk|simp only[wantB,hpk,Bool.not_false,Bool.not_true])))<;>omega)|fail)) :
  JL X md all QA (⟨some d,op,ty,ps,af,none⟩::l) ⟨L,H,nx⟩:=JL.s1 h hf hr hrb hd hc k
theorem q3d{f:FuncId}{args:AV}{R:AV→Prop}(h:callA X.T op ⟨L,[],nx⟩=some (cs,f,args))(hf:Fn X.P f args R)(hd:ltB d X.n=true)(k:∀ r,R r→JL X true all QA l ⟨(d,r)::L,H,nx⟩)(hc:allP cs:=by(first|exact trivial|(try dsimp only[allP,inK,idxC,loC,lohiC,fullC,underG,List.append,List.nil_append,List.cons_append,Ty.den,Ty.dflt,Int.toNat_natCast,List.length_cons,List.length_nil] at *);first|omega|((repeat' (first|exact trivial|assumption|refine And.intro ?_ ?_|exact fun h=>h|(intro hpk;first|exact hpk|simp only[wantB,hpk,Bool.not_false,Bool.not_true])))<;>omega)|fail)) :
  JL X true all QA (⟨some d,op,ty,ps,af,none⟩::l) ⟨L,H,nx⟩:=JL.c1 h hf hd hc k
theorem j0(i:Nat)(hX:XOK X)(ho:ops[i]?=some ⟨some d,op,ty,ps,af,none⟩)(h:evq X.T op ⟨L,H,nx⟩=some (cs,v))(k:JF X ops K fl fuel (i::ls) ⟨(d,v)::L,H,nx⟩)(hf:fsB ops ls fl i=true:=by decide +kernel)(e3:isLoad op=false:=by rfl)(hd:ltB d X.n=true:=by rfl)(hc:allP cs:=by(first|exact trivial|(try dsimp only[allP,inK,idxC,loC,lohiC,fullC,underG,List.append,List.nil_append,List.cons_append,Ty.den,Ty.dflt,Int.toNat_natCast,List.length_cons,List.length_nil] at *);first|omega|((repeat' (first|exact trivial|assumption|refine And.intro ?_ ?_|exact fun h=>h|(intro hpk;first|exact hpk|simp only[wantB,hpk,Bool.not_false,Bool.not_true])))<;>omega)|fail)) :
  JF X ops K fl (fuel+1) ls ⟨L,H,nx⟩:=JF.first i hX hf ho e3 h hd hc k
theorem k7(i:Nat)(hX:XOK X)(ho:ops[i]?=some ⟨some d,op,ty,ps,af,none⟩)(h:evq X.T op ⟨L,H,nx⟩=some (cs,v))(k:JF X ops K (i::fl) fuel (i::ls) ⟨(d,v)::L,H,nx⟩)(hf:ftB ops ls fl i d=true:=by decide +kernel)(hd:ltB d X.n=true:=by rfl)(hc:allP cs:=by(first|exact trivial|(try dsimp only[allP,inK,idxC,loC,lohiC,fullC,underG,List.append,List.nil_append,List.cons_append,Ty.den,Ty.dflt,Int.toNat_natCast,List.length_cons,List.length_nil] at *);first|omega|((repeat' (first|exact trivial|assumption|refine And.intro ?_ ?_|exact fun h=>h|(intro hpk;first|exact hpk|simp only[wantB,hpk,Bool.not_false,Bool.not_true])))<;>omega)|fail)) :
  JF X ops K fl (fuel+1) ls ⟨L,H,nx⟩:=JF.float i hX hf ho h hd hc k
theorem x4{f:Nat}{r:List Nat}(ho:ops[f]?=some ⟨some d,op,ty,ps,af,none⟩)(h:evq X.T op s=some (cs,v))(hl:lk s.L d=some v)(k:StF X ops s r)(hd:ltB d X.n=true:=by rfl)(hc:allP cs:=by(first|exact trivial|(try dsimp only[allP,inK,idxC,loC,lohiC,fullC,underG,List.append,List.nil_append,List.cons_append,Ty.den,Ty.dflt,Int.toNat_natCast,List.length_cons,List.length_nil] at *);first|omega|((repeat' (first|exact trivial|assumption|refine And.intro ?_ ?_|exact fun h=>h|(intro hpk;first|exact hpk|simp only[wantB,hpk,Bool.not_false,Bool.not_true])))<;>omega)|fail)):StF X ops s (f::r):=StF.one ho h hl hd hc k
theorem k8(i:Nat)(is:List Nat)(hX:XOK X)(hst:StF X ops s fl)(hB:BrF X ops K fl fuel ls s (i::is))(hc:ndB ops ls fl (i::is)=true:=by decide +kernel):JF X ops K fl (fuel+1) ls s:=q7f i is hX hc hst hB
theorem q0p(hX:XOK X)(hst:StF X ops s fl)(hK:K s)(hc:ndB ops ls fl []=true:=by decide +kernel):JF X ops K fl fuel ls s:=JF.done hX hc hst hK
theorem z6{s' s:S}{ps:List (Nat×Nat)}(h0:pairs s' s=ps)(hL:covL (renOf ps) s'.L s.L:=by(repeat' (first|exact trivial|exact rfl|refine And.intro ?_ ?_|exact Nat.le_of_ble_eq_true rfl|refine q7g ?_|(refine congrArg (fun z:Int=>some (AV.val (.int .i64) z)) ?_;push_cast;omega))))(hH:covH (renOf ps) s'.H s.H:=by(repeat' (first|exact trivial|exact rfl|refine And.intro ?_ ?_|exact Nat.le_of_ble_eq_true rfl|refine q7g ?_|(refine congrArg (fun z:Int=>some (AV.val (.int .i64) z)) ?_;push_cast;omega))))(hbL:bdL s'.nx s'.L:=by(repeat' (first|exact trivial|exact rfl|refine And.intro ?_ ?_|exact Nat.le_of_ble_eq_true rfl|refine q7g ?_|(refine congrArg (fun z:Int=>some (AV.val (.int .i64) z)) ?_;push_cast;omega))))(hbH:bdH s'.nx s'.H:=by(repeat' (first|exact trivial|exact rfl|refine And.intro ?_ ?_|exact Nat.le_of_ble_eq_true rfl|refine q7g ?_|(refine congrArg (fun z:Int=>some (AV.val (.int .i64) z)) ?_;push_cast;omega))))(hi:injH (renOf ps) s'.H=true:=by rfl):JW X s' s:=q9t h0 hL hH hbL hbH hi
end Ox
namespace Ox
open Go Go.RowKit
variable {X:Ctx}{s:S}{QA:Exit→S→Prop}
def qE(id:Nat)(R:S→Prop)(QA:Exit→S→Prop):Exit→S→Prop
 |.exit j,s=>if j=id then R s else QA (.exit j) s
 |e,s=>QA e s
theorem QX.er{id:Nat}{R:S→Prop}(h:QA .ret s):qE id R QA .ret s:=h
end Ox
namespace Ox
open Go Go.RowKit
variable {P:Program}{w:World}{M:Mem}
def Ty.flatB:Ty→Bool
 |.int _|.bool|.nil=>true|.arr _ e=>e.flatB|.cons a b=>a.flatB&&b.flatB|_=>false
def Ty.dep:Ty→Nat
 |.arr _ e=>e.dep+1|.cons a b=>max (a.dep+1) b.dep|_=>1
def Fl:Ty→List Value→Prop
 |.int k,cs=>∃ n,cs=[.int k n]
 |.bool,cs=>∃ b,cs=[.bool b]
 |.arr n e,cs=>cs.length=n*e.size∧∀ i,i<n→Fl e ((cs.drop (i*e.size)).take e.size)
 |.nil,cs=>cs=[]
 |.cons a b,cs=>∃ c1 c2,cs=c1++c2∧Fl a c1∧Fl b c2
 |_,_=>False
theorem Fl.length:∀ {t:Ty} {cs:List Value},Fl t cs→cs.length=t.size
 |.int _,_,h=>by obtain⟨n,rfl⟩:=h;rfl
 |.bool,_,h=>by obtain⟨n,rfl⟩:=h;rfl
 |.arr n e,_,h=>h.1
 |.nil,_,h=>by simp only[Fl] at h;subst h;rfl
 |.cons a b,_,h=>by
  simp only[Fl] at h
  obtain⟨c1,c2,rfl,h1,h2⟩:=h
  simp[Ty.size,h1.length,h2.length]
theorem Rep.fl:∀ {t:Ty} {x:t.den} {cs:List Value},t.flatB=true→Rep M t x cs→Fl t cs
 |.int _,_,_,_,h=>by simp only[Rep] at h;exact⟨_,h⟩
 |.bool,_,_,_,h=>by simp only[Rep] at h;exact⟨_,h⟩
 |.arr n e,l,cs,hf,h=>by
  simp only[Rep] at h
  refine⟨h.2.1,fun i hi=>Rep.fl (by simpa[Ty.flatB] using hf) (h.2.2 i (by omega))⟩
 |.nil,_,_,_,h=>by simp only[Rep] at h;exact h
 |.cons a b,x,cs,hf,h=>by
  simp only[Rep] at h
  simp only[Ty.flatB,Bool.and_eq_true] at hf
  obtain⟨c1,c2,rfl,h1,h2⟩:=h
  exact⟨c1,c2,rfl,h1.fl hf.1,h2.fl hf.2⟩
theorem z04{n c:Nat}{x y:List Value}(hx:x.length=n*c)(hy:y.length=n*c)(h:∀ i,i<n→(x.drop (i*c)).take c=(y.drop (i*c)).take c):x=y:=by
 rw[← chunks_flatten c n x hx,← chunks_flatten c n y hy]
 congr 1
 exact List.map_congr_left fun i hi=>h i (List.mem_range.1 hi)
theorem Rep.inj:∀ {t:Ty} {x y:t.den} {cx cy:List Value},t.flatB=true→Rep M t x cx→Rep M t y cy→(cx=cy↔x=y)
 |.int _,_,_,_,_,_,h1,h2=>by simp only[Rep] at h1 h2;subst h1 h2;simp
 |.bool,_,_,_,_,_,h1,h2=>by simp only[Rep] at h1 h2;subst h1 h2;simp
 |.arr n e,l,m,cx,cy,hf,h1,h2=>by
  simp only[Rep] at h1 h2
  have hf':e.flatB=true:=by simpa[Ty.flatB] using hf
  constructor
  ·rintro rfl
   refine List.ext_getElem (by omega) fun i i1 i2=>?_
   exact(Rep.inj hf' (h1.2.2 i i1) (h2.2.2 i i2)).1 rfl
  ·intro e0
   have e0:l=m:=e0
   subst e0
   exact z04 h1.2.1 h2.2.1 fun i hi=>(Rep.inj hf' (h1.2.2 i (by omega)) (h2.2.2 i (by omega))).2 rfl
 |.nil,_,_,_,_,_,h1,h2=>by simp only[Rep] at h1 h2;subst h1 h2;simp
 |.cons a b,x,y,cx,cy,hf,h1,h2=>by
  simp only[Rep] at h1 h2
  simp only[Ty.flatB,Bool.and_eq_true] at hf
  obtain⟨c1,c2,rfl,a1,a2⟩:=h1
  obtain⟨d1,d2,rfl,b1,b2⟩:=h2
  have hl:c1.length=d1.length:=by rw[a1.length,b1.length]
  rw[show c1++c2=d1++d2↔c1=d1∧c2=d2 from⟨fun e=>List.append_inj e hl,fun⟨e1,e2⟩=>by rw[e1,e2]⟩,Rep.inj hf.1 a1 b1,Rep.inj hf.2 a2 b2]
  exact⟨fun h=>Prod.ext h.1 h.2,fun h=>by rw[h];exact⟨rfl,rfl⟩⟩
def eqOkB(P:Program):Ty→TypeId→Bool
 |.arr _ e,id=>e.size != 0&&(match P.underlying id with|some (.array _ eid)=>eqOkB P e eid|_=>false)
 |.cons a b,id=>!P.stoodInHeld id&&(match P.underlying id with
   |some (.struct fs)=>(match fs.toList with
    |f::r=>f.name != "_"&&eqOkB P a f.type&&eqOkF P b r
    |[]=>false)
   |_=>false)
 |.nil,_=>false
 |_,_=>true
where
 eqOkF (P:Program):Ty→List Field→Bool
 |.nil,[]=>true
 |.cons a b,f::r=>f.name != "_"&&eqOkB P a f.type&&eqOkF P b r
 |_,_=>false
theorem q8b{k:IntKind}{n:Int}:(Ty.int k).wrap [.int k n]=.int k n:=rfl
theorem q5u{b:Bool}:Ty.bool.wrap [.bool b]=.bool b:=rfl
def EqA(P:Program)(t:Ty):Prop:=∀ (id:TypeId) (d:Nat),TyOf P t id→eqOkB P t id=true→t.dep≤d→∀ (w:World) (cx cy:List Value),Fl t cx→Fl t cy →
 ∃ r:Bool,(Op.equalIn d id (t.wrap cx) (t.wrap cy)).run P w=.ok r w∧(r=true↔cx=cy)
def EqF(P:Program)(t:Ty):Prop:=∀ (fs:List Field) (off d:Nat),TyOf.fields P t fs off→eqOkB.eqOkF P t fs=true→t.dep≤d+1→∀ (w:World) (xs ys:Array Value),Fl t (xs.toList.drop off)→Fl t (ys.toList.drop off) →
 ∃ r:Bool,(Op.eqFields d xs ys fs).run P w=.ok r w∧(r=true↔xs.toList.drop off=ys.toList.drop off)
theorem q6w{e:Ty}{eid:TypeId}{d:Nat}(IH:EqA P e)(ht:TyOf P e eid)(ho:eqOkB P e eid=true)(hd:e.dep≤d)(hs:0<e.size)(w:World)(xs ys:Array Value) :
  ∀ is:List Nat,(∀ i∈is,i*e.size+e.size≤xs.size∧i*e.size+e.size≤ys.size∧Fl e ((xs.toList.drop (i*e.size)).take e.size)∧Fl e ((ys.toList.drop (i*e.size)).take e.size)) →
  ∃ r:Bool,(Op.eqItems d eid e.size xs ys is).run P w=.ok r w∧(r=true↔∀ i∈is,(xs.toList.drop (i*e.size)).take e.size=(ys.toList.drop (i*e.size)).take e.size)
 |[],_=>⟨true,by simp[Op.eqItems],by simp⟩
 |i::is,h=>by
  obtain⟨h1,h2,h3,h4⟩:=h i (by simp)
  obtain⟨r,hr,hq⟩:=IH eid d ht ho hd w _ _ h3 h4
  obtain⟨r',hr',hq'⟩:=q6w IH ht ho hd hs w xs ys is fun j hj=>h j (by simp[hj])
  simp only[Op.eqItems,Sem.run_bind,q0r ht hs h1 w,q0r ht hs h2 w,hr,Result.andThen_ok]
  cases r
  ·exact⟨false,by simp,by simp only[Bool.false_eq_true,false_iff];intro hh;exact absurd (hq.2 (hh i (by simp))) (by simp)⟩
  ·exact⟨r',by simpa using hr',by rw[hq'];simp[hq.1 rfl]⟩
theorem q1m{t:Ty}{id:TypeId}(ht:TyOf P t id):P.cellsOf id=t.size:=by
 obtain⟨d,h1,h2⟩:=ht.info
 have:=h1.size
 simp only[Option.map_eq_some_iff] at this
 obtain⟨i,hi,he⟩:=this
 unfold Program.cellsOf
 simp[hi,he]
theorem z0x:∀ t:Ty,EqA P t∧EqF P t
 |.int k=>by
  refine⟨fun id d ht _ hd w cx cy hx hy=>?_,fun fs off d h=>?_⟩
  ·obtain⟨d,rfl⟩:∃ d',d=d'+1:=⟨d-1,by simp[Ty.dep] at hd;omega⟩
   obtain⟨n,rfl⟩:=hx
   obtain⟨m,rfl⟩:=hy
   exact⟨n==m,run_equalIn_int w d id k k n m ht.under,by simp⟩
  ·cases fs<;>simp[TyOf.fields] at h
 |.bool=>by
  refine⟨fun id d ht _ hd w cx cy hx hy=>?_,fun fs off d h=>?_⟩
  ·obtain⟨d,rfl⟩:∃ d',d=d'+1:=⟨d-1,by simp[Ty.dep] at hd;omega⟩
   obtain⟨n,rfl⟩:=hx
   obtain⟨m,rfl⟩:=hy
   exact⟨n==m,q1t ht.under n m,by simp⟩
  ·cases fs<;>simp[TyOf.fields] at h
 |.slice e=>⟨fun _ _ _ _ _ _ _ _ hx _=>hx.elim,fun fs off d h=>by cases fs<;>simp[TyOf.fields] at h⟩
 |.ptr e=>⟨fun _ _ _ _ _ _ _ _ hx _=>hx.elim,fun fs off d h=>by cases fs<;>simp[TyOf.fields] at h⟩
 |.nil=>by
  refine⟨fun _ _ ht=>ht.elim,fun fs off d h _ _ w xs ys hx hy=>?_⟩
  cases fs with
  |nil=>simp only[Fl] at hx hy;exact⟨true,by simp[Op.eqFields],by simp[hx,hy]⟩
  |cons f r=>simp[TyOf.fields] at h
 |.arr n e=>by
  refine⟨fun id d ht ho hd w cx cy hx hy=>?_,fun fs off d h=>by cases fs<;>simp[TyOf.fields] at h⟩
  obtain⟨d,rfl⟩:∃ d',d=d'+1:=⟨d-1,by simp[Ty.dep] at hd;omega⟩
  obtain⟨eid,h1,h2⟩:=ht
  simp only[eqOkB,h1.under,Bool.and_eq_true,bne_iff_ne] at ho
  obtain⟨hs,ho⟩:=ho
  obtain⟨i,hi⟩:=info_of_underlying (h2.info.choose_spec.1.under)
  have hce:=q1m h2
  rw[show(Ty.arr n e).wrap cx=.agg cx.toArray from rfl,show(Ty.arr n e).wrap cy=.agg cy.toArray from rfl,run_equalIn_array w d _ _ h1.under hi,hce]
  have hb:∀ i,i<n→i*e.size+e.size≤n*e.size:=fun i hi=>by rw[← Nat.succ_mul];exact Nat.mul_le_mul_right _ hi
  obtain⟨r,hr,hq⟩:=q6w (z0x e).1 h2 ho (by simp[Ty.dep] at hd;omega) (by omega) w cx.toArray cy.toArray (List.range n) fun i hi=>by
   have hi:=List.mem_range.1 hi
   exact⟨by simpa[hx.1] using hb i hi,by simpa[hy.1] using hb i hi,by simpa using hx.2 i hi,by simpa using hy.2 i hi⟩
  exact⟨r,hr,by rw[hq];exact⟨fun h=>z04 hx.1 hy.1 fun i hi=>by simpa using h i (List.mem_range.2 hi),fun h=>by rw[h];simp⟩⟩
 |.cons a b=>by
  have hF:EqF P (.cons a b):=by
   intro fs off d h ho hd w xs ys hx hy
   cases fs with
   |nil=>simp[TyOf.fields] at h
   |cons f r=>
    simp only[TyOf.fields] at h
    simp only[eqOkB.eqOkF,Bool.and_eq_true,bne_iff_ne] at ho
    obtain⟨h0,h1,h2,h3⟩:=h
    simp only[Fl] at hx hy
    obtain⟨c1,c2,ex,x1,x2⟩:=hx
    obtain⟨d1,d2,ey,y1,y2⟩:=hy
    have hxs:xs.size=off+(a.size+b.size)∨xs.size<off+1:=by
     have:=congrArg List.length ex
     simp[x1.length,x2.length] at this
     omega
    have hys:ys.size=off+(a.size+b.size)∨ys.size<off+1:=by
     have:=congrArg List.length ey
     simp[y1.length,y2.length] at this
     omega
    have tx:(xs.toList.drop off).take a.size=c1:=by rw[ex,← x1.length,List.take_left]
    have ty:(ys.toList.drop off).take a.size=d1:=by rw[ey,← y1.length,List.take_left]
    have dx:xs.toList.drop (off+a.size)=c2:=by rw[← List.drop_drop,ex,← x1.length,List.drop_left]
    have dy:ys.toList.drop (off+a.size)=d2:=by rw[← List.drop_drop,ey,← y1.length,List.drop_left]
    have lx:off+a.size≤xs.size:=by
     have:=congrArg List.length ex
     simp[x1.length] at this
     omega
    have ly:off+a.size≤ys.size:=by
     have:=congrArg List.length ey
     simp[y1.length] at this
     omega
    simp only[Ty.dep] at hd
    obtain⟨q,hq1,hq2⟩:=(z0x a).1 f.type d h1 ho.1.2 (by omega) w c1 d1 x1 y1
    obtain⟨q',hq1',hq2'⟩:=(z0x b).2 r (off+a.size) d h3 ho.2 (by omega) w xs ys (by rw[dx];exact x2) (by rw[dy];exact y2)
    have px:=q0r h1 (cs:=xs) (off:=off) (by omega) lx w
    have py:=q0r h1 (cs:=ys) (off:=off) (by omega) ly w
    rw[tx] at px
    rw[ty] at py
    simp only[Op.eqFields,ho.1.1,h0,ne_eq,not_false_eq_true,if_true,Sem.run_bind,px,py,hq1,Result.andThen_ok]
    rw[ex,ey,show c1++c2=d1++d2↔c1=d1∧c2=d2 from⟨fun e=>List.append_inj e (by rw[x1.length,y1.length]),fun⟨e1,e2⟩=>by rw[e1,e2]⟩]
    rw[dx,dy] at hq2'
    cases q
    ·exact⟨false,by simp,by simp only[Bool.false_eq_true,false_iff];intro hh;exact absurd (hq2.2 hh.1) (by simp)⟩
    ·exact⟨q',by simpa using hq1',by rw[hq2'];simp[hq2.1 rfl]⟩
  refine⟨fun id d ht ho hd w cx cy hx hy=>?_,hF⟩
  obtain⟨d,rfl⟩:∃ d',d=d'+1:=⟨d-1,by simp[Ty.dep] at hd;omega⟩
  obtain⟨fs,h1,h2⟩:=ht
  simp only[eqOkB,h1.under,Bool.and_eq_true,Bool.not_eq_true'] at ho
  have hfo:P.fieldsOf id=fs:=by unfold Program.fieldsOf;rw[h1.under]
  rw[show(Ty.cons a b).wrap cx=.agg cx.toArray from rfl,show(Ty.cons a b).wrap cy=.agg cy.toArray from rfl,run_equalIn_agg w d id _ _ (by rw[hfo];exact h1.under) ho.1,hfo]
  obtain⟨r,hr,hq⟩:=hF fs.toList 0 d (by
   cases hfs:fs.toList with
   |nil=>rw[hfs] at h2;exact h2.elim
   |cons f r=>rw[hfs] at h2;simp only[TyOf.fields,Nat.zero_add];exact h2) (by
   have:=ho.2
   cases hfs:fs.toList with
   |nil=>rw[hfs] at this;cases this
   |cons f r=>rw[hfs] at this;exact this) hd w cx.toArray cy.toArray (by simpa using hx) (by simpa using hy)
  exact⟨r,hr,by simpa using hq⟩
theorem z0w{t:Ty}{id:TypeId}(ht:TyOf P t id)(ho:eqOkB P t id=true)(hd:t.dep≤10000)(hf:t.flatB=true){x y:t.den}{cx cy:List Value}(hx:Rep M t x cx)(hy:Rep M t y cy)(w:World) :
  ∃ r:Bool,(Op.equal id (t.wrap cx) (t.wrap cy)).run P w=.ok r w∧(r=true↔x=y):=by
 obtain⟨r,hr,hq⟩:=(z0x t).1 id 10000 ht ho hd w cx cy (hx.fl hf) (hy.fl hf)
 exact⟨r,hr,hq.trans (hx.inj hf hy)⟩
def CkA(P:Program)(em:Bool)(t:Ty):Prop:=∀ (id:TypeId) (d:Nat),TyOf P t id→eqOkB P t id=true→t.dep≤d→∀ (w:World) (cx:List Value),Fl t cx→(Instr.checkKey em d id (t.wrap cx)).run P w=.ok () w
def ckFields(em:Bool)(d:Nat)(xs:Array Value):List Field→Sem Unit
 |[]=>pure ()
 |f::r=>if f.name ≠ "_" then do Instr.checkKey em d f.type (← part f.type xs f.offset);ckFields em d xs r else ckFields em d xs r
def CkF(P:Program)(em:Bool)(t:Ty):Prop:=∀ (fs:List Field) (off d:Nat),TyOf.fields P t fs off→eqOkB.eqOkF P t fs=true→t.dep≤d+1→∀ (w:World) (xs:Array Value),Fl t (xs.toList.drop off)→(ckFields em d xs fs).run P w=.ok () w
theorem z4h(em:Bool):∀ t:Ty,CkA P em t∧CkF P em t
 |.int k=>by
  refine⟨fun id d ht _ hd w cx hx=>?_,fun fs off d h=>?_⟩
  ·obtain⟨d,rfl⟩:∃ d',d=d'+1:=⟨d-1,by simp[Ty.dep] at hd;omega⟩
   obtain⟨n,rfl⟩:=hx
   have hu:P.underlying id=some (.int k):=ht.under
   simp[Instr.checkKey,run_underlying hu,q8b]
  ·cases fs<;>simp[TyOf.fields] at h
 |.bool=>by
  refine⟨fun id d ht _ hd w cx hx=>?_,fun fs off d h=>?_⟩
  ·obtain⟨d,rfl⟩:∃ d',d=d'+1:=⟨d-1,by simp[Ty.dep] at hd;omega⟩
   obtain⟨n,rfl⟩:=hx
   have hu:P.underlying id=some .bool:=ht.under
   simp[Instr.checkKey,run_underlying hu,q5u]
  ·cases fs<;>simp[TyOf.fields] at h
 |.slice e=>⟨fun _ _ _ _ _ _ _ hx=>hx.elim,fun fs off d h=>by cases fs<;>simp[TyOf.fields] at h⟩
 |.ptr e=>⟨fun _ _ _ _ _ _ _ hx=>hx.elim,fun fs off d h=>by cases fs<;>simp[TyOf.fields] at h⟩
 |.nil=>by
  refine⟨fun _ _ ht=>ht.elim,fun fs off d h _ _ w xs hx=>?_⟩
  cases fs with
  |nil=>simp[ckFields]
  |cons f r=>simp[TyOf.fields] at h
 |.arr n e=>by
  refine⟨fun id d ht ho hd w cx hx=>?_,fun fs off d h=>by cases fs<;>simp[TyOf.fields] at h⟩
  obtain⟨d,rfl⟩:∃ d',d=d'+1:=⟨d-1,by simp[Ty.dep] at hd;omega⟩
  obtain⟨eid,h1,h2⟩:=ht
  simp only[eqOkB,h1.under,Bool.and_eq_true,bne_iff_ne] at ho
  obtain⟨hs,ho⟩:=ho
  obtain⟨i,hi⟩:=info_of_underlying (h2.info.choose_spec.1.under)
  have hce:=q1m h2
  have hb:∀ i,i<n→i*e.size+e.size≤n*e.size:=fun i hi=>by rw[← Nat.succ_mul];exact Nat.mul_le_mul_right _ hi
  rw[show(Ty.arr n e).wrap cx=.agg cx.toArray from rfl,Instr.checkKey]
  simp only[Sem.run_bind,run_underlying h1.under,Result.andThen_ok]
  simp only[Std.Legacy.Range.forIn_eq_forIn_range',Std.Legacy.Range.size,Nat.sub_zero,Nat.add_one_sub_one,Nat.div_one]
  have each:∀ j∈List.range' 0 n,j<n:=fun j hj=>by simpa using hj
  generalize List.range' 0 n=is at each
  induction is with
  |nil=>simp
  |cons j is ih=>
   have hj:=each j (by simp)
   have p1:=q0r h2 (cs:=cx.toArray) (off:=j*e.size) (by omega) (by simpa[hx.1] using hb j hj) w
   have p2:=(z4h em e).1 eid d h2 ho (by simp[Ty.dep] at hd;omega) w _ (by simpa using hx.2 j hj)
   simp only[List.forIn_cons,Sem.run_bind,run_sizeOf w hi,hce,Result.andThen_ok,p1,p2,Sem.run_pure]
   exact ih fun y hy=>each y (by simp[hy])
 |.cons a b=>by
  have hF:CkF P em (.cons a b):=by
   intro fs off d h ho hd w xs hx
   cases fs with
   |nil=>simp[TyOf.fields] at h
   |cons f r=>
    simp only[TyOf.fields] at h
    simp only[eqOkB.eqOkF,Bool.and_eq_true,bne_iff_ne] at ho
    obtain⟨h0,h1,h2,h3⟩:=h
    simp only[Fl] at hx
    obtain⟨c1,c2,ex,x1,x2⟩:=hx
    have tx:(xs.toList.drop off).take a.size=c1:=by rw[ex,← x1.length,List.take_left]
    have dx:xs.toList.drop (off+a.size)=c2:=by rw[← List.drop_drop,ex,← x1.length,List.drop_left]
    have lx:off+a.size≤xs.size:=by
     have:=congrArg List.length ex
     simp[x1.length] at this
     omega
    simp only[Ty.dep] at hd
    have q1:=(z4h em a).1 f.type d h1 ho.1.2 (by omega) w c1 x1
    have q2:=(z4h em b).2 r (off+a.size) d h3 ho.2 (by omega) w xs (by rw[dx];exact x2)
    have px:=q0r h1 (cs:=xs) (off:=off) (by omega) lx w
    rw[tx] at px
    simp only[ckFields,ho.1.1,h0,ne_eq,not_false_eq_true,if_true,Sem.run_bind,px,q1,Result.andThen_ok]
    exact q2
  refine⟨fun id d ht ho hd w cx hx=>?_,hF⟩
  obtain⟨d,rfl⟩:∃ d',d=d'+1:=⟨d-1,by simp[Ty.dep] at hd;omega⟩
  obtain⟨fs,h1,h2⟩:=ht
  simp only[eqOkB,h1.under,Bool.and_eq_true,Bool.not_eq_true'] at ho
  have hr:=hF fs.toList 0 d (by
   cases hfs:fs.toList with
   |nil=>rw[hfs] at h2;exact h2.elim
   |cons f r=>rw[hfs] at h2;simp only[TyOf.fields,Nat.zero_add];exact h2) (by
   have:=ho.2
   cases hfs:fs.toList with
   |nil=>rw[hfs] at this;cases this
   |cons f r=>rw[hfs] at this;exact this) hd w cx.toArray (by simpa using hx)
  rw[show(Ty.cons a b).wrap cx=.agg cx.toArray from rfl,Instr.checkKey]
  simp only[Sem.run_bind,run_underlying h1.under,Result.andThen_ok]
  rw[← Array.forIn_toList]
  clear h2 ho
  generalize fs.toList=L at hr
  generalize Result.ok () w=R at hr
  induction L generalizing w with
  |nil=>simpa[ckFields] using hr
  |cons f L ih=>
   simp only[List.forIn_cons,Sem.run_bind]
   by_cases hn:f.name = "_"
   ·simp only[ckFields,hn,ne_eq,not_true_eq_false,if_false] at hr
    simp only[hn,ne_eq,not_true_eq_false,if_false,Sem.run_pure,Result.andThen_ok]
    exact ih w hr
   ·simp only[ckFields,hn,ne_eq,not_false_eq_true,if_true,Sem.run_bind] at hr
    simp only[hn,ne_eq,not_false_eq_true,if_true,Sem.run_bind]
    generalize (part f.type cx.toArray f.offset).run P w=r1 at hr
    cases r1 with
    |ok a w1=>
     simp only[Result.andThen_ok] at hr ⊢
     generalize (Instr.checkKey em d f.type a).run P w1=r2 at hr
     cases r2 with
     |ok u w2=>
      simp only[Result.andThen_ok,Sem.run_pure] at hr ⊢
      simpa using ih w2 hr
     |halt x w2=>simpa[Result.andThen] using hr
    |halt x w1=>simpa[Result.andThen] using hr
end Ox
namespace Ox
open Go Go.RowKit
variable {X:Ctx}{s:S}{M:Mem}{ρ:Env}{a:Act}{w w':World}{QA:Exit→S→Prop}{all l:List Oper}{o:Oper}{P:Program}
def Ty.dec:(t:Ty)→DecidableEq t.den
 |.int _=>inferInstanceAs (DecidableEq Int)
 |.bool=>inferInstanceAs (DecidableEq Bool)
 |.slice e=>letI:=e.dec;inferInstanceAs (DecidableEq (List e.den))
 |.ptr e=>letI:=e.dec;inferInstanceAs (DecidableEq (Option e.den))
 |.arr _ e=>letI:=e.dec;inferInstanceAs (DecidableEq (List e.den))
 |.nil=>inferInstanceAs (DecidableEq Unit)
 |.cons a b=>letI:=a.dec;letI:=b.dec;inferInstanceAs (DecidableEq (a.den×b.den))
def Ty.eqB(t:Ty)(x y:t.den):Bool:=@decide (x=y) (t.dec x y)
theorem u4{t:Ty}{x y:t.den}:t.eqB x y=true↔x=y:=by unfold Ty.eqB;exact @decide_eq_true_iff _ (t.dec x y)
abbrev Ent(kt vt:Ty):=kt.den×vt.den×Nat
def mIdx{kt vt:Ty}(es:List (Ent kt vt))(x:kt.den):Option Nat:=es.findIdx? fun e=>kt.eqB x e.1
structure KeyOK(P:Program)(t:Ty)(id:TypeId):Prop where
 ty:TyOf P t id
 ok:eqOkB P t id=true
 dep:t.dep≤10000
 flat:t.flatB=true
theorem q72{kt vt:Ty}{kid:TypeId}(hk:KeyOK P kt kid){x:kt.den}{cx:List Value}(hx:Rep M kt x cx)(w:World) :
  ∀ (es:List (Ent kt vt)) (ms:List MapEntry) (i:Nat),MapRep M kt vt es ms →
  match mIdx es x with
  |none=>(Instr.findAsking kid (kt.wrap cx) ms i).run P w=.ok none w
  |some j=>∃ e,ms[j]?=some e∧(Instr.findAsking kid (kt.wrap cx) ms i).run P w=.ok (some (i+j,e.val)) w
 |[],[],i,_=>by simp[mIdx,Instr.findAsking]
 |e::es,m::ms,i,h=>by
  simp only[MapRep] at h
  obtain⟨⟨⟨kc,hkc,hke⟩,_,_⟩,h2⟩:=h
  obtain⟨r,hr,hq⟩:=z0w hk.ty hk.ok hk.dep hk.flat hx hkc w
  have ih:=q72 hk hx w es ms (i+1) h2
  simp only[mIdx,List.findIdx?_cons,Instr.findAsking,Sem.run_bind,hke,hr,Result.andThen_ok] at ih ⊢
  cases r
  ·have hne:kt.eqB x e.1=false:=by
    cases hb:kt.eqB x e.1
    ·rfl
    ·exact absurd (hq.2 (u4.1 hb)) (by simp)
   rw[hne]
   simp only[Bool.false_eq_true,if_false]
   cases hf:es.findIdx? (fun e=>kt.eqB x e.1) with
   |none=>rw[hf] at ih;simpa using ih
   |some j=>
    rw[hf] at ih
    obtain⟨e',h3,h4⟩:=ih
    refine⟨e',by simpa using h3,?_⟩
    rw[h4]
    simp only[Result.ok.injEq,Option.some.injEq,Prod.mk.injEq,and_true]
    show i+1+j=i+(j+1)
    omega
  ·rw[u4.2 (hq.1 rfl)]
   exact⟨m,by simp,by simp⟩
 |[],_::_,_,h=>h.elim
 |_::_,[],_,h=>h.elim
theorem z72{kt vt:Ty}{d:TypeDesc}(hd:(∃ k,kt=.int k∧d=.int k)∨(kt=.bool∧d=.bool)){x:kt.den}{cx:List Value}(hx:Rep M kt x cx) :
  ∀ (es:List (Ent kt vt)) (ms:List MapEntry) (i:Nat),MapRep M kt vt es ms →
  match mIdx es x with
  |none=>Instr.findNow d (kt.wrap cx) ms i=some none
  |some j=>∃ e,ms[j]?=some e∧Instr.findNow d (kt.wrap cx) ms i=some (some (i+j,e.val))
 |[],[],i,_=>by simp[mIdx,Instr.findNow]
 |e::es,m::ms,i,h=>by
  simp only[MapRep] at h
  obtain⟨⟨⟨kc,hkc,hke⟩,_,_⟩,h2⟩:=h
  have ih:=z72 hd hx es ms (i+1) h2
  have hs:Instr.sameNow d (kt.wrap cx) m.key=some (kt.eqB x e.1):=by
   rw[hke]
   rcases hd with⟨k,rfl,rfl⟩|⟨rfl,rfl⟩
   ·simp only[Rep] at hx hkc
    subst hx hkc
    simp only[q8b,Instr.sameNow,if_true,Option.some.injEq]
    rw[Bool.eq_iff_iff,u4,beq_iff_eq]
   ·simp only[Rep] at hx hkc
    subst hx hkc
    simp only[q5u,Instr.sameNow,Option.some.injEq]
    rw[Bool.eq_iff_iff,u4,beq_iff_eq]
  simp only[mIdx,List.findIdx?_cons,Instr.findNow,hs] at ih ⊢
  cases hb:kt.eqB x e.1
  ·simp only[Bool.false_eq_true,if_false]
   cases hf:es.findIdx? (fun e=>kt.eqB x e.1) with
   |none=>rw[hf] at ih;simpa using ih
   |some j=>
    rw[hf] at ih
    obtain⟨e',h3,h4⟩:=ih
    refine⟨e',by simpa using h3,?_⟩
    rw[h4]
    simp only[Option.some.injEq,Prod.mk.injEq,and_true]
    show i+1+j=i+(j+1)
    omega
  ·exact⟨m,by simp,by simp⟩
 |[],_::_,_,h=>h.elim
 |_::_,[],_,h=>h.elim
theorem now_agg{d:TypeDesc}{cs:Array Value}(hd:(∃ n e,d=.array n e)∨∃ fs,d=.struct fs):∀ (ms:List MapEntry) (i:Nat),Instr.findNow d (.agg cs) ms i=if ms=[] then some none else none
 |[],i=>by simp[Instr.findNow]
 |m::ms,i=>by rcases hd with⟨n,e,rfl⟩|⟨fs,rfl⟩<;>simp[Instr.findNow,Instr.sameNow]
theorem q5n{kt vt:Ty}{kid:TypeId}(hk:KeyOK P kt kid){x:kt.den}{cx:List Value}(hx:Rep M kt x cx)(w:World)(es:List (Ent kt vt))(ms:List MapEntry)(h:MapRep M kt vt es ms) :
  match mIdx es x with
  |none=>(Instr.findKey kid (kt.wrap cx) ms).run P w=.ok none w
  |some j=>∃ e,ms[j]?=some e∧(Instr.findKey kid (kt.wrap cx) ms).run P w=.ok (some (j,e.val)) w:=by
 have ask:=q72 hk hx w es ms 0 h
 have wide:∀ d,P.underlying kid=some d→((∃ n e,d=.array n e)∨∃ fs,d=.struct fs)→kt.wrap cx=.agg cx.toArray→_:=fun d hu hd hw=>by
  have hn:=now_agg (cs:=cx.toArray) hd ms 0
  rw[← hw] at hn
  show match mIdx es x with
   |none=>(Instr.findKey kid (kt.wrap cx) ms).run P w=.ok none w
   |some j=>∃ e,ms[j]?=some e∧(Instr.findKey kid (kt.wrap cx) ms).run P w=.ok (some (j,e.val)) w
  unfold Instr.findKey
  simp only[Sem.run_bind,run_underlying hu,Result.andThen_ok,hn]
  by_cases hms:ms=[]
  ·subst hms
   cases es with
   |nil=>simp[mIdx]
   |cons _ _=>exact h.elim
  ·simp only[hms,if_false]
   cases hf:mIdx es x with
   |none=>rw[hf] at ask;exact ask
   |some j=>rw[hf] at ask;simpa using ask
 obtain⟨hty,_,_,hfl⟩:=hk
 have plain:∀ d,P.underlying kid=some d→((∃ k,kt=.int k∧d=.int k)∨(kt=.bool∧d=.bool))→match mIdx es x with
   |none=>(Instr.findKey kid (kt.wrap cx) ms).run P w=.ok none w
   |some j=>∃ e,ms[j]?=some e∧(Instr.findKey kid (kt.wrap cx) ms).run P w=.ok (some (j,e.val)) w:=fun d hu hd=>by
  have hn:=z72 hd hx es ms 0 h
  unfold Instr.findKey
  simp only[Sem.run_bind,run_underlying hu,Result.andThen_ok]
  cases hf:mIdx es x with
  |none=>rw[hf] at hn;simp only at hn;rw[hn];rfl
  |some j=>
   rw[hf] at hn
   obtain⟨e,h3,h4⟩:=hn
   refine⟨e,h3,?_⟩
   rw[h4]
   simp
 cases kt with
 |int k=>exact plain _ hty.under (.inl ⟨k,rfl,rfl⟩)
 |bool=>exact plain _ hty.under (.inr ⟨rfl,rfl⟩)
 |arr n e=>obtain⟨eid,h1,_⟩:=hty;exact wide _ h1.under (.inl ⟨_,_,rfl⟩) rfl
 |cons a b=>obtain⟨fs,h1,_⟩:=hty;exact wide _ h1.under (.inr ⟨_,rfl⟩) rfl
 |nil=>exact hty.elim
 |slice e=>simp[Ty.flatB] at hfl
 |ptr e=>simp[Ty.flatB] at hfl
theorem q2e{kt:Ty}{kid:TypeId}(hk:KeyOK P kt kid){x:kt.den}{cx:List Value}(hx:Rep M kt x cx)(em:Bool)(w:World):(Instr.checkKey em 10000 kid (kt.wrap cx)).run P w=.ok () w:=
 (z4h em kt).1 kid 10000 hk.ty hk.ok hk.dep w cx (hx.fl hk.flat)
theorem Fl.bits:∀ {t:Ty} {cs:List Value},Fl t cs→∀ c∈cs,∀ n,Instr.sameBits n c c=true
 |.int _,_,h,c,hc,n=>by obtain⟨m,rfl⟩:=h;simp only[List.mem_singleton] at hc;subst hc;cases n<;>simp[Instr.sameBits]
 |.bool,_,h,c,hc,n=>by obtain⟨m,rfl⟩:=h;simp only[List.mem_singleton] at hc;subst hc;cases n<;>simp[Instr.sameBits]
 |.nil,_,h,c,hc,n=>by simp only[Fl] at h;subst h;cases hc
 |.cons a b,_,h,c,hc,n=>by
  simp only[Fl] at h
  obtain⟨c1,c2,rfl,h1,h2⟩:=h
  rcases List.mem_append.1 hc with e|e
  ·exact h1.bits c e n
  ·exact h2.bits c e n
 |.arr k e,cs,h,c,hc,n=>by
  simp only[Fl] at h
  have h2:=h.2
  rw[← chunks_flatten e.size k cs h.1] at hc
  obtain⟨l,hl,hcl⟩:=List.mem_flatten.1 hc
  obtain⟨i,hi,rfl⟩:=List.mem_map.1 hl
  exact(h2 i (List.mem_range.1 hi)).bits c hcl n
 |.slice _,_,h,_,_,_=>h.elim
 |.ptr _,_,h,_,_,_=>h.elim
theorem q41{n:Nat}{a:Array Value}(h:∀ c∈a.toList,Instr.sameBits n c c=true):Instr.sameBits (n+1) (.agg a) (.agg a)=true:=by
 simp only[Instr.sameBits,beq_self_eq_true,Bool.true_and,List.all_eq_true]
 intro p hp
 have:p.1=p.2∧p.1∈a.toList:=by
  generalize a.toList=L at hp
  induction L with
  |nil=>simp at hp
  |cons x L ih=>
   simp only[List.zip_cons_cons,List.mem_cons] at hp
   rcases hp with rfl|hp
   ·exact⟨rfl,by simp⟩
   ·exact⟨(ih hp).1,by simp[(ih hp).2]⟩
 obtain⟨x,y⟩:=p
 simp only at this
 obtain⟨rfl,hm⟩:=this
 exact h x hm
theorem Fl.same{t:Ty}{cs:List Value}(h:Fl t cs)(hn:t≠.nil):Instr.sameBits 10000 (t.wrap cs) (t.wrap cs)=true:=by
 cases t with
 |int k=>obtain⟨m,rfl⟩:=h;simp[q8b,Instr.sameBits]
 |bool=>obtain⟨m,rfl⟩:=h;simp[q5u,Instr.sameBits]
 |nil=>exact absurd rfl hn
 |slice _=>exact h.elim
 |ptr _=>exact h.elim
 |arr k e=>exact q41 (n:=9999) fun c hc=>h.bits c (by simpa using hc) _
 |cons a b=>exact q41 (n:=9999) fun c hc=>h.bits c (by simpa using hc) _
theorem KeyOK.stays{kt:Ty}{kid:TypeId}(hk:KeyOK P kt kid){x:kt.den}{cx cy:List Value}(hx:Rep M kt x cx)(hy:Rep M kt x cy)(w:World):(Instr.keyThatStays (kt.wrap cy) (kt.wrap cx)).run P w=.ok (kt.wrap cx) w:=by
 have e:cy=cx:=(hy.inj hk.flat hx).2 rfl
 subst e
 have hs:=(hx.fl hk.flat).same (by rintro rfl;exact hk.ty.elim)
 unfold Instr.keyThatStays
 simp[hs]
def mGet{kt vt:Ty}(es:List (Ent kt vt))(x:kt.den)(d:vt.den):vt.den:=match mIdx es x with|none=>d|some j=>((es[j]?).map (·.2.1)).getD d
def mBorn{kt vt:Ty}(es:List (Ent kt vt))(clk:Nat)(x:kt.den):Nat:=match mIdx es x with|none=>clk|some j=>((es[j]?).map (·.2.2)).getD 0
def mPut{kt vt:Ty}(es:List (Ent kt vt))(clk:Nat)(x:kt.den)(v:vt.den):List (Ent kt vt):=match mIdx es x with|none=>es++[(x,v,clk)]|some j=>es.modify j fun e=>(e.1,v,e.2.2)
def mClk{kt vt:Ty}(es:List (Ent kt vt))(clk:Nat)(x:kt.den):Nat:=match mIdx es x with|none=>clk+1|some _=>clk
theorem MapRep.length{kt vt:Ty}:∀ {es:List (Ent kt vt)} {ms:List MapEntry},MapRep M kt vt es ms→ms.length=es.length
 |[],[],_=>rfl
 |_::_,_::_,h=>by simp only[MapRep] at h;simp[h.2.length]
 |[],_::_,h=>h.elim
 |_::_,[],h=>h.elim
theorem MapRep.get{kt vt:Ty}:∀ {es:List (Ent kt vt)} {ms:List MapEntry},MapRep M kt vt es ms→∀ {j:Nat} {m:MapEntry},ms[j]?=some m→∃ e,es[j]?=some e∧EntRep M kt vt e m
 |[],[],_,j,m,h=>by simp at h
 |e::es,m::ms,h,j,m',hj=>by
  simp only[MapRep] at h
  cases j with
  |zero=>simp only[List.getElem?_cons_zero,Option.some.injEq] at hj;subst hj;exact⟨e,by simp,h.1⟩
  |succ j=>obtain⟨e',h1,h2⟩:=h.2.get (by simpa using hj);exact⟨e',by simpa using h1,h2⟩
 |[],_::_,h,_,_,_=>h.elim
 |_::_,[],h,_,_,_=>h.elim
theorem MapRep.snoc{kt vt:Ty}{x:Ent kt vt}{m:MapEntry}(hx:EntRep M kt vt x m):∀ {es:List (Ent kt vt)} {ms:List MapEntry},MapRep M kt vt es ms→MapRep M kt vt (es++[x]) (ms++[m])
 |[],[],_=>by simp only[List.nil_append,MapRep];exact⟨hx,trivial⟩
 |_::_,_::_,h=>by simp only[MapRep,List.cons_append] at h ⊢;exact⟨h.1,h.2.snoc hx⟩
 |[],_::_,h=>h.elim
 |_::_,[],h=>h.elim
theorem MapRep.mod{kt vt:Ty}{f:Ent kt vt→Ent kt vt}{g:MapEntry→MapEntry}:∀ {es:List (Ent kt vt)} {ms:List MapEntry} (j:Nat),MapRep M kt vt es ms→(∀ e m,es[j]?=some e→ms[j]?=some m→EntRep M kt vt e m→EntRep M kt vt (f e) (g m))→MapRep M kt vt (es.modify j f) (ms.modify j g)
 |[],[],j,_,_=>by simp[MapRep]
 |e::es,m::ms,0,h,hf=>by simp only[MapRep,List.modify_zero_cons] at h ⊢;exact⟨hf e m (by simp) (by simp) h.1,h.2⟩
 |e::es,m::ms,j+1,h,hf=>by simp only[MapRep,List.modify_succ_cons] at h ⊢;exact⟨h.1,h.2.mod j fun e' m' h1 h2=>hf e' m' (by simpa using h1) (by simpa using h2)⟩
 |[],_::_,_,h,_=>h.elim
 |_::_,[],_,h,_=>h.elim
theorem SAT.setMap(h:SAT X M ρ s w){n:Nat}{kt vt:Ty}{es es':List (Ent kt vt)}{clk clk':Nat}{ms':Array MapEntry}(hl:lk s.H n=some (.map kt vt es clk))(hm:MapRep M kt vt es' ms'.toList) :
  SAT X M ρ ⟨s.L,updH s.H n (.map kt vt es' clk'),s.nx⟩ (ChangeMaps.setBlock w (ρ.blk n) (.map ms' clk')):=by
 have hok:=(h.own _ _ hl).2.2
 simp only[HO.ok] at hok
 obtain⟨h1,ms,h2,h3⟩:=hok
 have hlt:=(Array.getElem?_eq_some_iff.1 h2).1
 refine h.upd hl ⟨rfl,rfl,rfl,by simp[ChangeMaps.setBlock],fun k hk hne=>?_⟩ rfl trivial ?_
 ·have:ρ.blk n≠k:=fun e=>hne (by simp only[HO.at];rw[e])
  simp only[ChangeMaps.setBlock,Array.getElem?_setIfInBounds]
  rw[if_neg this]
 ·simp only[HO.ok]
  exact⟨h1,ms',by simp only[ChangeMaps.setBlock,Array.getElem?_setIfInBounds];simp[hlt],hm⟩
end Ox
namespace Ox
open Go Go.RowKit
variable {X:Ctx}{s:S}{M:Mem}{ρ:Env}{a:Act}{w w':World}{QA:Exit→S→Prop}{all l:List Oper}{o:Oper}{P:Program}
structure MapT(P:Program)(kt vt:Ty)(t kid vid:TypeId):Prop where
 under:P.underlying t=some (.map kid vid)
 key:KeyOK P kt kid
 val:TyOf P vt vid
theorem z20{vt:Ty}{vid:TypeId}(h:TyOf P vt vid)(w:World):(zeroValue vid).run P w=.ok (vt.wrap vt.zc) w:=by
 obtain⟨d,h1,_⟩:=h.info
 exact h1.run_zero w
section
variable {kt vt:Ty}{t kid vid:TypeId}{es:List (Ent kt vt)}{ms:Array MapEntry}{clk b:Nat}{x:kt.den}{cx:List Value}
theorem z43(hT:MapT P kt vt t kid vid)(hb:w.heap[b]?=some (.map ms clk))(hm:MapRep M kt vt es ms.toList)(hx:Rep M kt x cx) :
  ∃ vc,Rep M vt (mGet es x vt.dflt) vc∧(Instr.lookup t (.map (some b)) (kt.wrap cx) false).run P w=.ok (vt.wrap vc) w:=by
 have hf:=q5n hT.key hx w es ms.toList hm
 unfold Instr.lookup
 simp only[Sem.run_bind,run_underlying hT.under,Result.andThen_ok,MapKept.run_getObj_map hb,Sem.run_pure,q2e hT.key hx]
 unfold mGet
 cases hi:mIdx es x with
 |none=>
  rw[hi] at hf
  refine⟨vt.zc,y9 M vt,?_⟩
  simp[hf,z20 hT.val]
 |some j=>
  rw[hi] at hf
  obtain⟨e,h1,h2⟩:=hf
  obtain⟨e',h3,⟨_,⟨vc,h4,h5⟩,_⟩⟩:=hm.get h1
  refine⟨vc,by simp only[h3,Option.map_some,Option.getD_some];exact h4,?_⟩
  simp[h2,h5]
theorem z6u(hT:MapT P kt vt t kid vid)(hb:w.heap[b]?=some (.map ms clk))(hm:MapRep M kt vt es ms.toList)(hx:Rep M kt x cx){v:vt.den}{cv:List Value}(hv:Rep M vt v cv) :
  ∃ ms':Array MapEntry,MapRep M kt vt (mPut es clk x v) ms'.toList∧(Instr.mapUpdate t (.map (some b)) (kt.wrap cx) (vt.wrap cv)).run P w=.ok () (ChangeMaps.setBlock w b (.map ms' (mClk es clk x))):=by
 have hf:=q5n hT.key hx w es ms.toList hm
 unfold Instr.mapUpdate
 simp only[Sem.run_bind,run_underlying hT.under,Result.andThen_ok,MapKept.run_getObj_map hb,q2e hT.key hx]
 unfold mPut mClk
 cases hi:mIdx es x with
 |none=>
  rw[hi] at hf
  refine⟨ms.push {key:=kt.wrap cx,val:=vt.wrap cv,born:=clk},?_,?_⟩
  ·simp only[Array.toList_push]
   exact MapRep.snoc ⟨⟨cx,hx,rfl⟩,⟨cv,hv,rfl⟩,rfl⟩ hm
  ·simp only[hf,Result.andThen_ok,MapKept.run_setObj_map _ hb]
   rfl
 |some j=>
  rw[hi] at hf
  obtain⟨e,h1,h2⟩:=hf
  obtain⟨e',h3,⟨⟨kc,h4,h5⟩,h6,h7⟩⟩:=hm.get h1
  have hxe:e'.1=x:=by
   have:=List.findIdx?_eq_some_iff_getElem.1 hi
   obtain⟨hj,hp,_⟩:=this
   have h8:=u4.1 hp
   rw[List.getElem?_eq_getElem hj] at h3
   injection h3 with h3
   rw[← h3];exact h8.symm
  have hkey:((ms[j]?).map (·.key)).getD (kt.wrap cx)=kt.wrap kc:=by
   rw[← Array.getElem?_toList,h1];simp[h5]
  refine⟨ms.modify j fun e=>{e with key:=kt.wrap cx,val:=vt.wrap cv},?_,?_⟩
  ·rw[Array.toList_modify]
   refine hm.mod j fun e1 m1 g1 g2 g3=>⟨⟨cx,?_,rfl⟩,⟨cv,hv,rfl⟩,g3.2.2⟩
   rw[h3] at g1
   injection g1 with g1
   subst g1
   rw[hxe];exact hx
  ·simp only[h2,Result.andThen_ok,hkey,Sem.run_bind,hT.key.stays hx (show Rep M kt x kc from hxe▸h4),MapKept.run_setObj_map _ hb]
   rfl
end
end Ox
namespace Ox
open Go Go.RowKit
variable {X:Ctx}{s:S}{M:Mem}{ρ:Env}{a:Act}{w w':World}{QA:Exit→S→Prop}{all l:List Oper}{o:Oper}{P:Program}
variable {kt vt:Ty}{t kid vid:TypeId}{es:List (Ent kt vt)}{ms:Array MapEntry}{clk b n d nx:Nat}{x:kt.den}{cx:List Value}{L:List (Nat×AV)}{H:List (Nat×HO)}
 {ty:TypeId} {ps:String} {af:Array Edge} {c1 c2 c3:List Prop} {om ok ov:Operand}
theorem q7d{v:AV}{s':S}(hg:o.guard=none)(hn:notDef o.op=true)(hd:dstOk X.n o.dst)(h:∀ M ρ a w,SAT X M ρ s w→REG X M ρ s a→Did X M ρ s v s' ((execOp a.eval o).run X.P w))(k:JL X true all QA l (putS o.dst v s')):JL X true all QA (o::l) s:=by
 intro M ρ a w h1 h2
 obtain⟨ρ',w',nxt,e1,e2,e3,e4,e5,e6,e7⟩:=h M ρ a w h1 h2
 refine j7 (v5 hg) ?_
 have h2':REG X M ρ' s' a:=by
  have:=h2.grow (H':=s'.H) (nx':=s'.nx) (Mem.le_refl M) e2 e3 (d9 M)
  rw[← e4] at this
  exact⟨this.size,this.defers,this.reg⟩
 rcases e7 with⟨z,rfl,hz⟩|⟨rfl,rfl⟩
 ·exact v6 hn e1 (k M ρ' _ w' (j6 e5) (h2'.putO hd.spec e6 hz))
 ·exact q17 hn e1 (k M ρ' _ w' (j6 e5) (h2'.putO hd.spec e6 (by simp only[AV.rv])))
theorem q57(hu:opd L om=some (c1,.lf (.mp n)))(hc:allP c1)(h2:REG X M ρ ⟨L,H,nx⟩ a):a.eval om=.map (some (ρ.blk n)):=by
 have:=(z7 (s:=⟨L,H,nx⟩) hu hc h2).2
 rw[x5] at this
 simp only[Leaf.at,Option.some.injEq] at this
 exact this.1.symm
theorem q1j{y:vt.den}(hu:opd L om=some (c1,.val vt y))(hc:allP c1)(h2:REG X M ρ ⟨L,H,nx⟩ a):∃ cs,Rep M vt y cs∧a.eval om=vt.wrap cs:=by
 have:=(z7 (s:=⟨L,H,nx⟩) hu hc h2).2
 simpa only[AV.rv] using this
theorem q55(h1:SAT X M ρ ⟨L,H,nx⟩ w)(hl:lk H n=some (.map kt vt es clk)):∃ ms,w.heap[ρ.blk n]?=some (.map ms clk)∧MapRep M kt vt es ms.toList:=by
 have:=m7 h1 hl
 simp only[HO.ok] at this
 exact this.2
theorem JL.mLook(hT:MapT X.P kt vt t kid vid)(hu:opd L om=some (c1,.lf (.mp n)))(hl:lk H n=some (.map kt vt es clk))(hv:opd L ok=some (c2,.val kt x))(hd:ltB d X.n=true)(hc:allP (c1++c2))
  (k:JL X true all QA l ⟨(d,.val vt (mGet es x vt.dflt))::L,H,nx⟩):JL X true all QA (⟨some d,.lookup t om ok false,ty,ps,af,none⟩::l) ⟨L,H,nx⟩:=by
 rw[q9] at hc
 refine q7d rfl rfl (u0 hd) (v:=.val vt (mGet es x vt.dflt)) (s':=⟨L,H,nx⟩) (fun M ρ a w h1 h2=>?_) k
 obtain⟨ms,hb,hm⟩:=q55 h1 hl
 obtain⟨cx,hx,hxe⟩:=q1j hv hc.2 h2
 obtain⟨vc,r1,r2⟩:=z43 hT hb hm hx
 refine⟨ρ,w,_,?_,Env.upTo.refl _ _,Nat.le_refl _,rfl,h1,trivial,.inl ⟨_,rfl,by simp only[AV.rv];exact⟨vc,r1,rfl⟩⟩⟩
 simp only[execOp,q57 hu hc.1 h2,hxe,Sem.run_bind,r2,Result.andThen_ok,Sem.run_pure]
theorem JL.mIns(hT:MapT X.P kt vt t kid vid)(hu:opd L om=some (c1,.lf (.mp n)))(hl:lk H n=some (.map kt vt es clk))(hv:opd L ok=some (c2,.val kt x)){y:vt.den}(hy:opd L ov=some (c3,.val vt y))(hc:allP (c1++(c2++c3)))
  (k:JL X true all QA l ⟨L,updH H n (.map kt vt (mPut es clk x y) (mClk es clk x)),nx⟩):JL X true all QA (⟨none,.insert t om ok ov,ty,ps,af,none⟩::l) ⟨L,H,nx⟩:=by
 rw[q9,q9] at hc
 refine q7d rfl rfl trivial (v:=.undef) (s':=⟨L,updH H n (.map kt vt (mPut es clk x y) (mClk es clk x)),nx⟩) (fun M ρ a w h1 h2=>?_) k
 obtain⟨ms,hb,hm⟩:=q55 h1 hl
 obtain⟨cx,hx,hxe⟩:=q1j hv hc.2.1 h2
 obtain⟨cy,hy',hye⟩:=q1j hy hc.2.2 h2
 obtain⟨ms',r1,r2⟩:=z6u hT hb hm hx hy'
 refine⟨ρ,_,_,?_,Env.upTo.refl _ _,Nat.le_refl _,rfl,h1.setMap hl r1,trivial,.inr ⟨rfl,rfl⟩⟩
 simp only[execOp,q57 hu hc.1 h2,hxe,hye,Sem.run_bind,r2,Result.andThen_ok,Sem.run_pure]
theorem SAT.newOb(h:SAT X M ρ s w){ob:Obj}{o:HO}(hat:∀ ρ':Env,o.at ρ' s.nx=some (ρ'.blk s.nx))(hob:o.bd (s.nx+1))(hok:o.ok X M (ρ.with s.nx w.heap.size .nil Go.undef) s.nx (w.alloc ob)) :
  SAT X M (ρ.with s.nx w.heap.size .nil Go.undef) ⟨s.L,(s.nx,o)::s.H,s.nx+1⟩ (w.alloc ob):=by
 have hlt:∀ b o,M b=some o→b<w.heap.size:=fun b o hb=>(Array.getElem?_eq_some_iff.1 (h.mem b o hb)).1
 refine h.add (World.grownBy_alloc w _ none) (fun b hb=>by cases hb) (fun l o hl=>⟨hl,fun b _=>by simp⟩) (w6 _ _ _ _ _) hob hok ?_
 intro b hb
 rw[hat] at hb
 simp only[Env.with,if_true,Option.some.injEq] at hb
 subst hb
 refine⟨?_,fun l o1 hl hb=>?_⟩
 ·cases hM:M w.heap.size with
  |none=>rfl
  |some o=>exact absurd (hlt _ _ hM) (Nat.lt_irrefl _)
 ·exact absurd (p9 (h.own l o1 hl).2.2 hb).2 (Nat.lt_irrefl _)
theorem y8(hT:MapT X.P kt vt t kid vid)(hd:ltB d X.n=true)
  (k:JL X true all QA l ⟨(d,.lf (.mp nx))::L,(nx,.map kt vt [] 0)::H,nx+1⟩):JL X true all QA (⟨some d,.makeMap t none,ty,ps,af,none⟩::l) ⟨L,H,nx⟩:=by
 refine q7d rfl rfl (u0 hd) (v:=.lf (.mp nx)) (s':=⟨L,(nx,.map kt vt [] 0)::H,nx+1⟩) (fun M ρ a w h1 h2=>?_) k
 have hs:=h1.newOb (ob:=.map #[] 0) (o:=.map kt vt [] 0) (fun _=>rfl) trivial (by
  simp only[HO.ok,Env.with,if_true]
  exact⟨h1.below.size,#[],heap_alloc_new w _,trivial⟩)
 refine⟨_,_,_,?_,w6 _ _ w.heap.size .nil Go.undef,Nat.le_succ _,rfl,hs,Nat.lt_succ_self _,.inl ⟨.map (some w.heap.size),rfl,?_⟩⟩
 ·simp only[execOp,Instr.makeMap,Option.map_none,Sem.run_bind,run_newObj_alloc,Result.andThen_ok,Sem.run_pure]
 ·rw[x5];simp[Leaf.at,Env.with,Value.oneCell']
end Ox
namespace Ox
open Go Go.RowKit
variable {X:Ctx}{s:S}{M:Mem}{ρ:Env}{a:Act}{w w':World}{QA:Exit→S→Prop}{all l:List Oper}{o:Oper}{P:Program}
variable {kt vt:Ty}{t kid vid:TypeId}{es:List (Ent kt vt)}{ms:Array MapEntry}{clk b n d nx:Nat}{x:kt.den}{cx:List Value}{L:List (Nat×AV)}{H:List (Nat×HO)}
 {ty:TypeId} {ps:String} {af:Array Edge} {c1 c2 c3:List Prop} {om ok ov:Operand}
def mDel{kt vt:Ty}(es:List (Ent kt vt))(x:kt.den):List (Ent kt vt):=match mIdx es x with|none=>es|some j=>es.eraseIdx j
theorem MapRep.erase{kt vt:Ty}:∀ {es:List (Ent kt vt)} {ms:List MapEntry} (j:Nat),MapRep M kt vt es ms→MapRep M kt vt (es.eraseIdx j) (ms.eraseIdx j)
 |[],[],j,_=>by simp[MapRep]
 |e::es,m::ms,0,h=>by simp only[MapRep] at h;simpa using h.2
 |e::es,m::ms,j+1,h=>by simp only[MapRep,List.eraseIdx_cons_succ] at h ⊢;exact⟨h.1,h.2.erase j⟩
 |[],_::_,_,h=>h.elim
 |_::_,[],_,h=>h.elim
theorem run_del{tt:TypeId}(hT:MapT P kt vt t kid vid)(hb:w.heap[b]?=some (.map ms clk))(hm:MapRep M kt vt es ms.toList)(hx:Rep M kt x cx){ta:TypeId} :
  ∃ ms':Array MapEntry,MapRep M kt vt (mDel es x) ms'.toList∧(Builtin.delete_ #[t,ta] tt #[.map (some b),kt.wrap cx]).run P w=.ok (.tuple #[]) (ChangeMaps.setBlock w b (.map ms' clk)):=by
 have hf:=q5n hT.key hx w es ms.toList hm
 unfold Builtin.delete_
 simp only[List.getElem?_toArray,List.getElem?_cons_zero,List.getElem?_cons_succ,Sem.run_bind,run_underlying hT.under,Result.andThen_ok,MapKept.run_getObj_map hb,q2e hT.key hx]
 unfold mDel
 cases hi:mIdx es x with
 |none=>
  rw[hi] at hf
  refine⟨ms,hm,?_⟩
  simp only[hf,Result.andThen_ok,Sem.run_bind,MapKept.run_setObj_map _ hb,Sem.run_pure]
  rfl
 |some j=>
  rw[hi] at hf
  obtain⟨e,h1,h2⟩:=hf
  refine⟨ms.eraseIdxIfInBounds j,?_,?_⟩
  ·rw[Array.toList_eraseIdxIfInBounds];exact hm.erase j
  ·simp only[h2,Result.andThen_ok,Sem.run_bind,MapKept.run_setObj_map _ hb,Sem.run_pure]
   rfl
theorem JL.mDel(hT:MapT X.P kt vt t kid vid){ta:TypeId}(hu:opd L om=some (c1,.lf (.mp n)))(hl:lk H n=some (.map kt vt es clk))(hv:opd L ok=some (c2,.val kt x))(hc:allP (c1++c2))
  (k:JL X true all QA l ⟨L,updH H n (.map kt vt (Ox.mDel es x) clk),nx⟩):JL X true all QA (⟨none,.call {callee:=.builtin .delete,args:=#[om,ok],argTypes:=#[t,ta]},ty,ps,af,none⟩::l) ⟨L,H,nx⟩:=by
 rw[q9] at hc
 refine q7d rfl rfl trivial (v:=.tup .anil) (s':=⟨L,updH H n (.map kt vt (Ox.mDel es x) clk),nx⟩) (fun M ρ a w h1 h2=>?_) k
 obtain⟨ms,hb,hm⟩:=q55 h1 hl
 obtain⟨cx,hx,hxe⟩:=q1j hv hc.2 h2
 obtain⟨ms',r1,r2⟩:=run_del (tt:=ty) (ta:=ta) hT hb hm hx
 refine⟨ρ,_,_,?_,Env.upTo.refl _ _,Nat.le_refl _,rfl,h1.setMap hl r1,trivial,.inl ⟨.tuple #[],rfl,?_⟩⟩
 ·simp only[execOp,resolve,invoke,builtin,Sem.run_bind,Sem.run_pure,Result.andThen_ok,List.map_toArray,List.map_cons,List.map_nil,q57 hu hc.1 h2,hxe,r2]
 ·simp only[AV.rv,AV.rvs];exact⟨[],rfl,rfl⟩
end Ox
namespace Ox
open Go Go.RowKit
variable {kt vt:Ty}{es:List (Ent kt vt)}{clk:Nat}{x y:kt.den}{v d:vt.den}{e:Ent kt vt}
theorem q0i:mIdx es x=none↔∀ e∈es,e.1≠x:=by
 unfold mIdx
 rw[List.findIdx?_eq_none_iff]
 refine⟨fun h e he hx=>?_,fun h e he=>?_⟩
 ·have:=h e he
  rw[u4.2 hx.symm] at this;cases this
 ·cases hb:kt.eqB x e.1
  ·rfl
  ·exact absurd (u4.1 hb).symm (h e he)
theorem q1y{j:Nat}(h:mIdx es x=some j):∃ hj:j<es.length,(es[j]).1=x:=by
 unfold mIdx at h
 rw[List.findIdx?_eq_some_iff_getElem] at h
 obtain⟨hj,h1,_⟩:=h
 exact⟨hj,(u4.1 h1).symm⟩
structure MWF(es:List (Ent kt vt))(clk:Nat):Prop where
 lt:∀ e∈es,e.2.2<clk
 nb:(es.map (·.2.2)).Nodup
 nk:(es.map (·.1)).Nodup
theorem MWF.nil:MWF ([]:List (Ent kt vt)) clk:=⟨(fun _ h=>by cases h),List.nodup_nil,List.nodup_nil⟩
theorem q8q{α β:Type}{f:α→β}:∀ {l:List α},(l.map f).Nodup→∀ {a b:α},a∈l→b∈l→f a=f b→a=b
 |[],_,_,_,h,_,_=>by cases h
 |c::l,hn,a,b,ha,hb,e=>by
  rw[List.map_cons,List.nodup_cons] at hn
  rcases List.mem_cons.1 ha with h1|h1
  ·rcases List.mem_cons.1 hb with h2|h2
   ·rw[h1,h2]
   ·exact absurd (List.mem_map.2 ⟨b,h2,by rw[← e,h1]⟩) hn.1
  ·rcases List.mem_cons.1 hb with h2|h2
   ·exact absurd (List.mem_map.2 ⟨a,h1,by rw[e,h2]⟩) hn.1
   ·exact q8q hn.2 h1 h2 e
theorem idx_at{α β:Type}{f:α→β}{l:List α}(hn:(l.map f).Nodup){i j:Nat}(hi:i<l.length)(hj:j<l.length)(e:f l[i]=f l[j]):i=j:=by
 have:=List.pairwise_iff_getElem.1 hn
 rcases Nat.lt_trichotomy i j with hlt|h|hlt
 ·exact absurd (by rw[List.getElem_map,List.getElem_map];exact e) (this i j (by simpa using hi) (by simpa using hj) hlt)
 ·exact h
 ·exact absurd (by rw[List.getElem_map,List.getElem_map];exact e.symm) (this j i (by simpa using hj) (by simpa using hi) hlt)
theorem MWF.eq(h:MWF es clk){e e':Ent kt vt}(h1:e∈es)(h2:e'∈es)(hk:e.1=e'.1):e=e':=q8q h.nk h1 h2 hk
theorem MWF.eqb(h:MWF es clk){e e':Ent kt vt}(h1:e∈es)(h2:e'∈es)(hk:e.2.2=e'.2.2):e=e':=q8q h.nb h1 h2 hk
theorem q3n(h:MWF es clk)(he:e∈es):mGet es e.1 d=e.2.1:=by
 unfold mGet
 split
 ·rename_i hn
  exact absurd rfl (q0i.1 hn e he)
 ·rename_i j hj
  obtain⟨hl,hk⟩:=q1y hj
  rw[List.getElem?_eq_getElem hl]
  have:=h.eq (List.getElem_mem hl) he hk
  rw[this];rfl
theorem z3y(h:∀ e∈es,e.1≠x):mGet es x d=d:=by
 unfold mGet
 rw[q0i.2 h]
theorem z18{α β:Type}{f:α→α}{g:α→β}(hg:∀ a,g (f a)=g a):∀ (l:List α) (j:Nat),(l.modify j f).map g=l.map g
 |[],j=>by simp
 |a::l,0=>by simp[hg]
 |a::l,j+1=>by simp[z18 hg l j]
theorem mem_mod{α:Type}{f:α→α}{b:α}:∀ {l:List α} {j:Nat},b∈l.modify j f↔(∃ i,∃ h:i<l.length,i≠j∧l[i]=b)∨(∃ h:j<l.length,f l[j]=b):=by
 intro l j
 rw[List.mem_iff_getElem]
 constructor
 ·rintro⟨i,hi,rfl⟩
  have hi':i<l.length:=by simpa using hi
  by_cases h:i=j
  ·subst h;right;exact⟨hi',by simp⟩
  ·left;exact⟨i,hi',h,by rw[List.getElem_modify,if_neg (fun e=>h e.symm)]⟩
 ·rintro(⟨i,hi,hne,rfl⟩|⟨hj,rfl⟩)
  ·exact⟨i,by simpa using hi,by rw[List.getElem_modify,if_neg (fun e=>hne e.symm)]⟩
  ·exact⟨j,by simpa using hj,by simp⟩
theorem q2c(h:MWF es clk):e∈mPut es clk x v↔(e∈es∧e.1≠x)∨(e.1=x∧e.2.1=v∧e.2.2=mBorn es clk x):=by
 unfold mPut mBorn
 split
 ·rename_i hn
  rw[q0i] at hn
  rw[List.mem_append,List.mem_singleton]
  refine or_congr ⟨fun he=>⟨he,hn e he⟩,fun he=>he.1⟩ ?_
  obtain⟨a,b,c⟩:=e
  simp
 ·rename_i j hj
  obtain⟨hl,hk⟩:=q1y hj
  rw[mem_mod,List.getElem?_eq_getElem hl]
  constructor
  ·rintro(⟨i,hi,hne,rfl⟩|⟨_,rfl⟩)
   ·refine .inl ⟨List.getElem_mem hi,fun hx=>hne (idx_at h.nk hi hl (hx.trans hk.symm))⟩
   ·exact .inr ⟨hk,rfl,rfl⟩
  ·rintro(⟨he,hne⟩|⟨h1,h2,h3⟩)
   ·obtain⟨i,hi,rfl⟩:=List.mem_iff_getElem.1 he
    exact .inl ⟨i,hi,fun hij=>hne (by subst hij;exact hk),rfl⟩
   ·refine .inr ⟨hl,?_⟩
    obtain⟨a,b,c⟩:=e
    simp only[Option.map_some,Option.getD_some] at h1 h2 h3
    rw[hk,h1,h2,h3]
theorem MWF.put(h:MWF es clk):MWF (mPut es clk x v) (mClk es clk x):=by
 unfold mPut mClk
 split
 ·rename_i hn
  rw[q0i] at hn
  refine⟨fun e he=>?_,?_,?_⟩
  ·rcases List.mem_append.1 he with he|he
   ·have:=h.lt e he;omega
   ·rw[List.mem_singleton.1 he];exact Nat.lt_succ_self _
  ·rw[List.map_append,List.nodup_append]
   refine⟨h.nb,by simp,fun a ha b hb=>?_⟩
   obtain⟨e,he,rfl⟩:=List.mem_map.1 ha
   simp only[List.map_cons,List.map_nil,List.mem_singleton] at hb
   have:=h.lt e he
   omega
  ·rw[List.map_append,List.nodup_append]
   refine⟨h.nk,by simp,fun a ha b hb=>?_⟩
   obtain⟨e,he,rfl⟩:=List.mem_map.1 ha
   simp only[List.map_cons,List.map_nil,List.mem_singleton] at hb
   subst hb
   exact hn e he
 ·refine⟨fun e he=>?_,?_,?_⟩
  ·obtain⟨i,hi,rfl⟩:=List.mem_iff_getElem.1 he
   have:=h.lt (es[i]'(by simpa using hi)) (List.getElem_mem _)
   rw[List.getElem_modify]
   split
   ·exact this
   ·exact this
  ·rw[z18 (f:=fun e:Ent kt vt=>(e.1,v,e.2.2)) (g:=fun e=>e.2.2) fun _=>rfl];exact h.nb
  ·rw[z18 (f:=fun e:Ent kt vt=>(e.1,v,e.2.2)) (g:=fun e=>e.1) fun _=>rfl];exact h.nk
theorem mGet_put(h:MWF es clk)(hc:Decidable (y=x)):mGet (mPut es clk x v) y d=if y=x then v else mGet es y d:=by
 split
 ·rename_i e;subst e
  exact q3n (h.put) (e:=(y,v,mBorn es clk y)) ((q2c h).2 (.inr ⟨rfl,rfl,rfl⟩))
 ·rename_i hne
  cases hi:mIdx es y with
  |none=>
   rw[q0i] at hi
   rw[z3y hi,z3y]
   intro e he hk
   rcases(q2c h).1 he with⟨h1,_⟩|⟨h1,_⟩
   ·exact hi e h1 hk
   ·exact hne (hk.symm.trans h1)
  |some j=>
   obtain⟨hl,hk⟩:=q1y hi
   rw[← hk] at hne ⊢
   rw[q3n h (List.getElem_mem hl),q3n h.put ((q2c h).2 (.inl ⟨List.getElem_mem hl,hne⟩))]
theorem mPut_key(h:MWF es clk){z:kt.den}:(∃ e∈mPut es clk x v,e.1=z)↔z=x∨∃ e∈es,e.1=z:=by
 constructor
 ·rintro⟨e,he,rfl⟩
  rcases(q2c h).1 he with⟨h1,_⟩|⟨h1,_⟩
  ·exact .inr ⟨e,h1,rfl⟩
  ·exact .inl h1
 ·intro hz
  by_cases hx:z=x
  ·exact⟨(x,v,mBorn es clk x),(q2c h).2 (.inr ⟨rfl,rfl,rfl⟩),hx.symm⟩
  ·rcases hz with hz|⟨e,he,rfl⟩
   ·exact absurd hz hx
   ·exact⟨e,(q2c h).2 (.inl ⟨he,hx⟩),rfl⟩
theorem mDel_sub:(mDel es x).Sublist es:=by
 unfold mDel
 split
 ·exact List.Sublist.refl _
 ·exact List.eraseIdx_sublist _ _
theorem q8w(h:MWF es clk):e∈mDel es x↔e∈es∧e.1≠x:=by
 unfold mDel
 split
 ·rename_i hn
  rw[q0i] at hn
  exact⟨fun he=>⟨he,hn e he⟩,fun he=>he.1⟩
 ·rename_i j hj
  obtain⟨hl,hk⟩:=q1y hj
  rw[List.mem_eraseIdx_iff_getElem]
  constructor
  ·rintro⟨i,hi,hne,rfl⟩
   refine⟨List.getElem_mem hi,fun hx=>hne (idx_at h.nk hi hl (hx.trans hk.symm))⟩
  ·rintro⟨he,hne⟩
   obtain⟨i,hi,rfl⟩:=List.mem_iff_getElem.1 he
   exact⟨i,hi,fun hij=>hne (by subst hij;exact hk),rfl⟩
theorem MWF.sub{fs:List (Ent kt vt)}(h:MWF es clk)(hs:fs.Sublist es):MWF fs clk:=⟨fun e he=>h.lt e (hs.subset he),(hs.map _).nodup h.nb,(hs.map _).nodup h.nk⟩
theorem MWF.del(h:MWF es clk):MWF (mDel es x) clk:=h.sub mDel_sub
section
variable {X:Ctx}{s:S}{M:Mem}{ρ:Env}{a:Act}{w w':World}{QA:Exit→S→Prop}{all l:List Oper}{o:Oper}{P:Program}{md:Bool}
variable {t kid vid:TypeId}{n dd nx:Nat}{L:List (Nat×AV)}{H:List (Nat×HO)}{ty:TypeId}{ps:String}{af:Array Edge}{c1 c2 c3:List Prop}{om ok ov:Operand}
theorem JL.vq{v:AV}(hg:o.guard=none)(hn:notDef o.op=true)(hd:dstOk X.n o.dst)(hb:v.bd s.nx)(h:∀ M ρ a w,SAT X M ρ s w→REG X M ρ s a→∃ z,v.rv M ρ z∧∀ w1,(execOp a.eval o).run X.P w1=.ok (.value z) w1)
  (k:JL X md all QA l (putS o.dst v s)):JL X md all QA (o::l) s:=by
 cases md
 ·intro M ρ a w0 h1 h2
  obtain⟨z,hz,hr⟩:=h M ρ a w0 h1 h2
  simp only[wpQuiet,Region.wanted,hg,if_true]
  refine⟨z,fun w hw=>?_,k M ρ _ w0 (j6 h1) (h2.putO hd.spec hb hz)⟩
  unfold Oper.quietAt
  rw[hr w]
  exact⟨rfl,rfl⟩
 ·intro M ρ a w h1 h2
  obtain⟨z,hz,hr⟩:=h M ρ a w h1 h2
  exact j7 (v5 hg) (v6 hn (hr w) (k M ρ _ w (j6 h1) (h2.putO hd.spec hb hz)))
theorem JL.neQ(hK:KeyOK X.P kt t)(hag:kt.agg=true)(hgt:X.P.eqGuardType X.P.depth t=false)(hu:opd L om=some (c1,.val kt x))(hv:opd L ok=some (c2,.val kt y))(hd:ltB dd X.n=true)(hc:allP (c1++c2)){tt:TypeId}
  (k:JL X md all QA l ⟨(dd,.val .bool (!kt.eqB x y))::L,H,nx⟩):JL X md all QA (⟨some dd,.binOp .neq t om ok tt,ty,ps,af,none⟩::l) ⟨L,H,nx⟩:=by
 rw[q9] at hc
 refine JL.vq rfl rfl (u0 hd) trivial (v:=.val .bool (!kt.eqB x y)) (s:=⟨L,H,nx⟩) (fun M ρ a w h1 h2=>⟨.bool (!kt.eqB x y),m8.2 rfl,fun w1=>?_⟩) k
 obtain⟨cx,hx,hxe⟩:=q1j (vt:=kt) hu hc.1 h2
 obtain⟨cy,hy,hye⟩:=q1j (vt:=kt) hv hc.2 h2
 obtain⟨r,hr,hq⟩:=z0w hK.ty hK.ok hK.dep hK.flat hx hy w1
 have hrb:r=kt.eqB x y:=by rw[Bool.eq_iff_iff,u4];exact hq
 rw[g8 hag,g8 hag] at hr
 simp only[execOp,hxe,hye,g8 hag,Sem.run_bind,run_eqGuard_agg w1 _ _ _ _ _ _ hgt,Result.andThen_ok,binOp,hr,Sem.run_pure,hrb]
theorem JL.gF{gg:Nat×Bool}{g:Bool}{op:Op}(hg:gOf all L (some gg)=some g)(hgf:g=false)(hd:ltB dd X.n=true)(k:JL X true all QA l ⟨(dd,.undef)::L,H,nx⟩) :
  JL X true all QA (⟨some dd,op,ty,ps,af,some gg⟩::l) ⟨L,H,nx⟩:=by
 subst hgf
 intro M ρ a w h1 h2
 have hw:=q0k (s:=⟨L,H,nx⟩) (o:=⟨some dd,op,ty,ps,af,some gg⟩) hg h2
 refine q1e hw ?_
 exact k M ρ _ w (j6 (d:=some dd) (v:=.undef) h1) (h2.putO (d:=some dd) (dstOk.spec (u0 hd)) trivial (by simp only[AV.rv]))
end
end Ox
namespace Ox
open Go Go.RowKit
variable {X:Ctx}{s:S}{M:Mem}{ρ:Env}{a:Act}{w w':World}{QA:Exit→S→Prop}{all l:List Oper}{o:Oper}{P:Program}{md:Bool}
variable {kt vt:Ty}{t kid vid:TypeId}{es:List (Ent kt vt)}{clk n d nx:Nat}{x y:kt.den}{L:List (Nat×AV)}{H:List (Nat×HO)}
 {ty:TypeId} {ps:String} {af:Array Edge} {c1 c2 c3:List Prop} {om ok ov:Operand}
structure EqT(P:Program)(kt:Ty)(t:TypeId):Prop where
 key:KeyOK P kt t
 ag:kt.agg=true
 gt:P.eqGuardType P.depth t=false
def keyB(P:Program)(kt:Ty)(t:TypeId):Bool:=tyB P kt t&&(eqOkB P kt t&&(Nat.ble kt.dep 10000&&kt.flatB))
theorem KeyOK.of{P:Program}{kt:Ty}{t:TypeId}(h:keyB P kt t=true):KeyOK P kt t:=by
 simp only[keyB,Bool.and_eq_true] at h
 exact⟨e8 h.1,h.2.1,Nat.le_of_ble_eq_true h.2.2.1,h.2.2.2⟩
def eqtB(P:Program)(kt:Ty)(t:TypeId):Bool:=keyB P kt t&&(kt.agg&&!P.eqGuardType P.depth t)
theorem EqT.of{P:Program}{kt:Ty}{t:TypeId}(h:eqtB P kt t=true):EqT P kt t:=by
 simp only[eqtB,Bool.and_eq_true,Bool.not_eq_true'] at h
 exact⟨.of h.1,h.2.1,h.2.2⟩
theorem MapT.of{P:Program}{kt vt:Ty}{t kid vid:TypeId}(h:P.underlying t=some (.map kid vid))(hb:(keyB P kt kid&&tyB P vt vid)=true):MapT P kt vt t kid vid:=by
 simp only[Bool.and_eq_true] at hb
 exact⟨h,.of hb.1,e8 hb.2⟩
theorem x3(hT:MapT X.P kt vt t kid vid)(hu:opd L om=some (c1,.lf (.mp n)))(hl:lk H n=some (.map kt vt es clk))(hv:opd L ok=some (c2,.val kt x))(hd:ltB d X.n=true)
  (k:JL X true all QA l ⟨(d,.val vt (mGet es x vt.dflt))::L,H,nx⟩) (hc:allP (c1++c2):=by(first|exact trivial|(try dsimp only[allP,inK,idxC,loC,lohiC,fullC,underG,List.append,List.nil_append,List.cons_append,Ty.den,Ty.dflt,Int.toNat_natCast,List.length_cons,List.length_nil] at *);first|omega|((repeat' (first|exact trivial|assumption|refine And.intro ?_ ?_|exact fun h=>h|(intro hpk;first|exact hpk|simp only[wantB,hpk,Bool.not_false,Bool.not_true])))<;>omega)|fail)):JL X true all QA (⟨some d,.lookup t om ok false,ty,ps,af,none⟩::l) ⟨L,H,nx⟩:=JL.mLook hT hu hl hv hd hc k
theorem p8(hK:EqT X.P kt t)(hu:opd L om=some (c1,.val kt x))(hv:opd L ok=some (c2,.val kt y))(hd:ltB d X.n=true){tt:TypeId}
  (k:JL X md all QA l ⟨(d,.val .bool (!kt.eqB x y))::L,H,nx⟩) (hc:allP (c1++c2):=by(first|exact trivial|(try dsimp only[allP,inK,idxC,loC,lohiC,fullC,underG,List.append,List.nil_append,List.cons_append,Ty.den,Ty.dflt,Int.toNat_natCast,List.length_cons,List.length_nil] at *);first|omega|((repeat' (first|exact trivial|assumption|refine And.intro ?_ ?_|exact fun h=>h|(intro hpk;first|exact hpk|simp only[wantB,hpk,Bool.not_false,Bool.not_true])))<;>omega)|fail)):JL X md all QA (⟨some d,.binOp .neq t om ok tt,ty,ps,af,none⟩::l) ⟨L,H,nx⟩:=JL.neQ hK.key hK.ag hK.gt hu hv hd hc k
end Ox
namespace Ox
open Go Go.RowKit
variable {X:Ctx}{s:S}{QA:Exit→S→Prop}{all l:List Oper}{md:Bool}{op:Op}{L:List (Nat×AV)}{H:List (Nat×HO)}{nx d:Nat}{v:AV}{cs:List Prop}{ty:TypeId}{ps:String}{af:Array Edge}{g:Bool}{gg:Nat×Bool}
mutual
theorem q4y{n:Nat}:∀ {a:AV},a.scal=true→a.bd n
 |.val ..,_=>trivial
 |.undef,_=>trivial
 |.tup a,h=>q7k (a:=a) (by simpa only[AV.scal] using h)
 |.mix ..,h=>by simp[AV.scal] at h
 |.lf ..,h=>by simp[AV.scal] at h
 |.fn ..,h=>by simp[AV.scal] at h
 |.anil,h=>by simp[AV.scal] at h
 |.acons ..,h=>by simp[AV.scal] at h
 |.gd ..,h=>by simp[AV.scal] at h
 |.full ..,h=>by simp[AV.scal] at h
theorem q7k{n:Nat}:∀ {a:AV},a.scalL=true→a.bd n
 |.anil,_=>trivial
 |.acons a b,h=>by
  simp only[AV.scalL,Bool.and_eq_true] at h
  exact⟨q4y h.1,q7k h.2⟩
 |.val ..,h=>by simp[AV.scalL] at h
 |.undef,h=>by simp[AV.scalL] at h
 |.tup ..,h=>by simp[AV.scalL] at h
 |.mix ..,h=>by simp[AV.scalL] at h
 |.lf ..,h=>by simp[AV.scalL] at h
 |.fn ..,h=>by simp[AV.scalL] at h
 |.gd ..,h=>by simp[AV.scalL] at h
 |.full ..,h=>by simp[AV.scalL] at h
end
end Ox
namespace Ox
open Go Go.RowKit
variable {X:Ctx}{s:S}{QA:Exit→S→Prop}{all l:List Oper}{md:Bool}{o:Oper}
inductive Fr
 |code (c:Code)
 |blk (id:Nat)
 |ops (md:Bool) (all l:List Oper)
 |fin (P:S→Prop)
 |scp
def qq(X:Ctx):List Fr→(Exit→S→Prop)→Exit→S→Prop
 |[],QA=>QA
 |.code c::r,QA=>qThen (fun s=>JC X c (qq X r QA) s) (qq X r QA)
 |.blk id::r,QA=>qBlock id (qq X r QA)
 |.ops md all l::r,QA=>qThen (fun s=>JL X md all (qq X r QA) l s) (qq X r QA)
 |.fin P::r,QA=>qThen P (qq X r QA)
 |.scp::r,QA=>qScope (qq X r QA)
def JK(X:Ctx)(st:List Fr)(QA:Exit→S→Prop)(s:S):Prop:=qq X st QA .normal s
def popF:Nat→List Fr→Option (List Fr)
 |_,[]=>none
 |id,.blk j::r=>if j=id then some r else popF id r
 |id,_::r=>popF id r
theorem q04{id:Nat}:∀ {r r':List Fr},popF id r=some r'→JK X r' QA s→qq X r QA (.exit id) s
 |[],_,h,_=>by simp[popF] at h
 |.blk j::r,r',h,k=>by
  simp only[popF] at h
  simp only[qq,qBlock]
  by_cases e:j=id
  ·rw[if_pos e] at h;injection h with h;subst h;rw[if_pos e.symm];exact k
  ·rw[if_neg e] at h;rw[if_neg (fun h=>e h.symm)];exact q04 h k
 |.code _::r,_,h,k=>q04 (r:=r) h k
 |.ops ..::r,_,h,k=>q04 (r:=r) h k
 |.fin _::r,_,h,k=>q04 (r:=r) h k
 |.scp::r,_,h,k=>q04 (r:=r) h k
theorem q7t:∀ {r:List Fr},QA .ret s→qq X r QA .ret s
 |[],h=>h
 |.blk _::r,h=>q7t (r:=r) h
 |.code _::r,h=>q7t (r:=r) h
 |.ops ..::r,h=>q7t (r:=r) h
 |.fin _::r,h=>q7t (r:=r) h
 |.scp::r,h=>q7t (r:=r) h
def stepO(T:List (Nat×Ty))(ET:List (Nat×Nat))(n:Nat)(md:Bool)(o:Oper)(s:S):Option (List Prop×S):=
 match o,s with
 |⟨some d,op,_,_,_,none⟩,⟨L,H,nx⟩=>match ltB d n with
  |true=>match evb T op ⟨L,H,nx⟩ with
   |some (cs,v)=>some (cs,⟨(d,v)::L,H,nx⟩)
   |none=>match md with
    |true=>match evm T ET op ⟨L,H,nx⟩ with
     |some (cs,v,⟨L',H',nx'⟩)=>some (cs,⟨(d,v)::L',H',nx'⟩)
     |none=>none
    |false=>none
  |false=>none
 |⟨none,op,_,_,_,none⟩,⟨L,H,nx⟩=>match md with
  |true=>match evm T ET op ⟨L,H,nx⟩ with
   |some (cs,_,s')=>some (cs,s')
   |none=>match evb T op ⟨L,H,nx⟩ with
    |some (cs,_)=>some (cs,⟨L,H,nx⟩)
    |none=>none
  |false=>match evb T op ⟨L,H,nx⟩ with
   |some (cs,_)=>some (cs,⟨L,H,nx⟩)
   |none=>none
 |_,_=>none
theorem z1r{cs:List Prop}{s':S}(hX:XOK X)(h:stepO X.T X.ET X.n md o s=some (cs,s'))(hc:allP cs)(k:JL X md all QA l s'):JL X md all QA (o::l) s:=by
 obtain⟨d,op,ty,ps,af,g⟩:=o
 obtain⟨L,H,nx⟩:=s
 unfold stepO at h
 split at h
 ·rename_i heq heq2
  injection heq with e1 e2 _ _ _ e3
  injection heq2 with e4 e5 e6
  subst e1;subst e2;subst e3;subst e4;subst e5;subst e6
  split at h
  ·rename_i hd
   split at h
   ·rename_i cs' v hv
    simp only[Option.some.injEq,Prod.mk.injEq] at h
    obtain⟨rfl,rfl⟩:=h
    exact JL.q hX rfl hv (u0 hd) hc k
   ·split at h
    ·split at h
     ·rename_i cs' v L' H' nx' hv
      simp only[Option.some.injEq,Prod.mk.injEq] at h
      obtain⟨rfl,rfl⟩:=h
      exact JL.m hX rfl hv (u0 hd) hc k
     ·cases h
    ·cases h
  ·cases h
 ·rename_i heq heq2
  injection heq with e1 e2 _ _ _ e3
  injection heq2 with e4 e5 e6
  subst e1;subst e2;subst e3;subst e4;subst e5;subst e6
  split at h
  ·split at h
   ·rename_i cs' v s'' hv
    simp only[Option.some.injEq,Prod.mk.injEq] at h
    obtain⟨rfl,rfl⟩:=h
    exact JL.m hX rfl hv trivial hc k
   ·split at h
    ·rename_i cs' v hv
     simp only[Option.some.injEq,Prod.mk.injEq] at h
     obtain⟨rfl,rfl⟩:=h
     exact JL.q hX rfl hv trivial hc k
    ·cases h
  ·split at h
   ·rename_i cs' v hv
    simp only[Option.some.injEq,Prod.mk.injEq] at h
    obtain⟨rfl,rfl⟩:=h
    exact JL.q hX rfl hv trivial hc k
   ·cases h
 ·cases h
def stepC(T:List (Nat×Ty))(ET:List (Nat×Nat))(n:Nat)(u:Bool):List Fr→S→Option (List Prop×List Fr×S)
 |.ops md all (o::l)::r,s=>match stepO T ET n md o s with
  |some (cs,s')=>some (cs,.ops md all l::r,s')
  |none=>none
 |.ops _ _ []::r,s=>some ([],r,s)
 |.blk _::r,s=>some ([],r,s)
 |.scp::r,s=>some ([],r,s)
 |.code c::r,s=>match c with
  |.skip=>some ([],r,s)
  |.label _=>some ([],r,s)
  |.seq (.region id ops d) (.cond x a b)=>match u with
   |true=>none
   |false=>some ([],.code (.region id ops d)::.code (.cond x a b)::r,s)
  |.seq a b=>some ([],.code a::.code b::r,s)
  |.block id c=>some ([],.code c::.blk id::r,s)
  |.scope c=>some ([],.code c::.scp::r,s)
  |.exit id=>match popF id r with
   |some r'=>some ([],r',s)
   |none=>none
  |.region _ ⟨ops⟩ false=>some ([],.ops true ops ops::r,s)
  |_=>none
 |_,_=>none
theorem JK.step{u:Bool}{st st':List Fr}{cs:List Prop}{s':S}(hX:XOK X)(h:stepC X.T X.ET X.n u st s=some (cs,st',s'))(k:JK X st' QA s')(hc:allP cs):JK X st QA s:=by
 unfold stepC at h
 split at h
 ·split at h
  ·rename_i hv
   simp only[Option.some.injEq,Prod.mk.injEq] at h
   obtain⟨rfl,rfl,rfl⟩:=h
   exact z1r hX hv hc k
  ·cases h
 ·simp only[Option.some.injEq,Prod.mk.injEq] at h
  obtain⟨rfl,rfl,rfl⟩:=h
  exact JL.nil k
 ·simp only[Option.some.injEq,Prod.mk.injEq] at h
  obtain⟨rfl,rfl,rfl⟩:=h
  exact k
 ·simp only[Option.some.injEq,Prod.mk.injEq] at h
  obtain⟨rfl,rfl,rfl⟩:=h
  exact k
 ·split at h
  ·simp only[Option.some.injEq,Prod.mk.injEq] at h
   obtain⟨rfl,rfl,rfl⟩:=h
   exact j1k k
  ·simp only[Option.some.injEq,Prod.mk.injEq] at h
   obtain⟨rfl,rfl,rfl⟩:=h
   exact z4z k
  ·split at h
   ·cases h
   ·simp only[Option.some.injEq,Prod.mk.injEq] at h
    obtain⟨rfl,rfl,rfl⟩:=h
    exact z1g k
  ·simp only[Option.some.injEq,Prod.mk.injEq] at h
   obtain⟨rfl,rfl,rfl⟩:=h
   exact z1g k
  ·simp only[Option.some.injEq,Prod.mk.injEq] at h
   obtain⟨rfl,rfl,rfl⟩:=h
   exact JC.block k
  ·simp only[Option.some.injEq,Prod.mk.injEq] at h
   obtain⟨rfl,rfl,rfl⟩:=h
   exact JC.scope k
  ·split at h
   ·rename_i hp
    simp only[Option.some.injEq,Prod.mk.injEq] at h
    obtain⟨rfl,rfl,rfl⟩:=h
    exact j1m (q04 hp k)
   ·cases h
  ·simp only[Option.some.injEq,Prod.mk.injEq] at h
   obtain⟨rfl,rfl,rfl⟩:=h
   exact z1h k
  ·cases h
 ·cases h
theorem JK.gd{L:List (Nat×AV)}{H:List (Nat×HO)}{nx d:Nat}{gg:Nat×Bool}{op:Op}{ty:TypeId}{ps:String}{af:Array Edge}{r:List Fr}{g:Bool}{cs:List Prop}{v:AV}(hX:XOK X)(hg:gOf all L (some gg)=some g)(h:evb X.T op ⟨L,H,nx⟩=some (cs,v))(hd:ltB d X.n=true)
  (k:JK X (.ops md all l::r) QA ⟨(d,.gd g v)::L,H,nx⟩) (hc:g=true→allP cs):JK X (.ops md all (⟨some d,op,ty,ps,af,some gg⟩::l)::r) QA ⟨L,H,nx⟩:=JL.g (s:=⟨L,H,nx⟩) hX hg h (u0 hd) hc k
theorem z5{x:Operand}{c d:Code}{r:List Fr}{b:Bool}(hb:opB s.L x=some b)(ht:b=true→JK X (.code c::r) QA s)(hf:b=false→JK X (.code d::r) QA s):JK X (.code (.cond x c d)::r) QA s:=JC.cond hb ht hf
theorem JK.draw{id:Nat}{ops:List Oper}{r:List Fr}(hX:XOK X)(k:JK X (.ops false ops ops::r) QA s)(hB:(Region.lexB .any ops.toArray&&ndAll ops)=true:=by decide +kernel):JK X (.code (.region id ⟨ops⟩ true)::r) QA s:=JC.draw hX hB k
theorem q7{r:List Fr}(h:QA .ret s):JK X (.code .ret::r) QA s:=JC.ret (q7t h)
theorem JK.done(h:QA .normal s):JK X [] QA s:=h
theorem q8{P:S→Prop}{r:List Fr}(h:P s):JK X (.fin P::r) QA s:=h
theorem z8{c:Code}(h:JK X [.code c] QA s):JC X c QA s:=h
theorem JK.toL{r:List Fr}(h:JK X (.ops md all l::r) QA s):JL X md all (qq X r QA) l s:=h
theorem JK.ofC{c:Code}{r:List Fr}(h:JC X c (qq X r QA) s):JK X (.code c::r) QA s:=h
theorem JK.ofL{r:List Fr}(h:JL X md all (qq X r QA) l s):JK X (.ops md all l::r) QA s:=h
theorem JK.loop{c:Code}{r:List Fr}{σ:Type}(st:σ→S)(I:σ→Prop)(μ:σ→Nat)(i0:σ)(h0:I i0)(hs:JW X (st i0) s)
  (round:∀ i,I i→JK X (.code c::.fin (fun s'=>∃ i',JW X (st i') s'∧I i'∧μ i'<μ i)::r) QA (st i)):JK X (.code (.loop c)::r) QA s:=JC.loop st I μ i0 h0 hs round
theorem qq_fin{P:S→Prop}{r:List Fr}(k:∀ s,P s→JK X r QA s):∀ e s,qq X (.fin P::r) QA e s→qq X r QA e s:=by
 intro e s h
 cases e with
 |normal=>exact k s h
 |_=>exact h
theorem JK.cutP{c:Code}{r:List Fr}(P:S→Prop)(h:JK X (.code c::.fin P::r) QA s)(k:∀ s,P s→JK X r QA s):JK X (.code c::r) QA s:=JC.mono h (qq_fin k)
theorem q0o{c:Code}{r:List Fr}{s':S}(h:JW X s' s)(k:JK X (.code c::r) QA s'):JK X (.code c::r) QA s:=f8 h k
theorem JK.cut{x y:Code}{r:List Fr}{σ:Type}(st:σ→S)(P:σ→Prop)(h:JK X (.code x::.fin (fun s=>∃ q,JW X (st q) s∧P q)::.code y::r) QA s)(k:∀ q,P q→JK X (.code y::r) QA (st q)):JK X (.code x::.code y::r) QA s:=
 JK.cutP _ h fun _ ⟨q,hw,hp⟩=>q0o hw (k q hp)
theorem JK.loopE{c:Code}{id:Nat}{y:Code}{r:List Fr}{σ τ:Type}(st:σ→S)(I:σ→Prop)(μ:σ→Nat)(i0:σ)(h0:I i0)(hs:JW X (st i0) s)(E:τ→S)(PE:τ→Prop)(k:∀ q,PE q→JK X (.code y::r) QA (E q))
  (round:∀ i,I i→JK X (.code c::.fin (fun s'=>∃ i',JW X (st i') s'∧I i'∧μ i'<μ i)::.blk id::.fin (fun s'=>∃ q,JW X (E q) s'∧PE q)::.code y::r) QA (st i)):JK X (.code (.loop c)::.blk id::.code y::r) QA s:=by
 have h1:JK X (.code (.loop c)::.blk id::.fin (fun s'=>∃ q,JW X (E q) s'∧PE q)::.code y::r) QA s:=JK.loop st I μ i0 h0 hs round
 refine JC.mono h1 ?_
 intro e s' h
 have hk:=qq_fin (X:=X) (QA:=QA) (r:=.code y::r) (P:=fun s'=>∃ q,JW X (E q) s'∧PE q) fun s ⟨q,hw,hp⟩=>q0o hw (k q hp)
 cases e with
 |exit j=>
  simp only[qq,qBlock] at h ⊢
  split at h
  ·rename_i e;rw[if_pos e];exact hk .normal _ h
  ·rename_i e;rw[if_neg e];exact hk (.exit j) _ h
 |normal=>exact hk .normal _ h
 |_=>exact h
theorem q7e{id:Nat}{y:Code}{r:List Fr}(hX:XOK X)(c:Code)(st:S){ops:List Oper}(ho:rgn id c=ops)(n:Nat)(hn:(rgn id c).length=n)
  (h:JF X (rgn id c) (fun s'=>JW X st s') [] n [] s) (k:JK X (.code y::r) QA st):JK X (.code (.region id ⟨ops⟩ true)::.code y::r) QA s:=by
 subst ho;subst hn
 exact q2n hX _ h.any fun s' hs=>q0o hs k
theorem q9v{id j:Nat}{y:Code}{r:List Fr}(hX:XOK X)(c:Code)(st:S){ops:List Oper}(ho:rgn id c=ops)(n:Nat)(hn:(rgn id c).length=n)
  (h:JF X (rgn id c) (fun s'=>JW X st s') [] n [] s) (k:JK X (.code y::r) QA st):JK X (.code (.region id ⟨ops⟩ true)::.blk j::.code y::r) QA s:=by
 subst ho;subst hn
 exact q2n hX _ h.any fun s' hs=>q0o hs k
theorem q9u{id:Nat}{r:List Fr}(hX:XOK X)(c:Code){ops:List Oper}(ho:rgn id c=ops)(n:Nat)(hn:(rgn id c).length=n)
  (h:JF X (rgn id c) (fun s'=>JK X r QA s') [] n [] s):JK X (.code (.region id ⟨ops⟩ true)::r) QA s:=by
 subst ho;subst hn
 exact q2n hX _ h.any fun _ h=>h
theorem JK.lenOf{c:Code}{r:List Fr}(d:Nat){t:Ty}{x:t.den}(h:lk s.L d=some (.val t x))(k:t.lens x→JK X (.code c::r) QA s):JK X (.code c::r) QA s:=JC.lenOf d h k
theorem JK.ghost{c:Code}{r:List Fr}(d:Nat)(eid:TypeId)(e:Ty)(hd:lk s.L d=some (.lf .nils))(k:JK X (.code c::r) QA ⟨(d,.lf (.osl s.nx))::s.L,(s.nx,.sl eid e [])::s.H,s.nx+1⟩):JK X (.code c::r) QA s:=JC.ghost d eid e hd k
theorem JK.frz{c:Code}{r:List Fr}{cs:List Prop}{s':S}(F K:List Nat)(h:Ox.frz F K s=some (cs,s'))(hc:allP cs)(k:JK X (.code c::r) QA s'):JK X (.code c::r) QA s:=JC.frz F K h hc k
theorem JK.fz{c:Code}{r:List Fr}{cs:List Prop}{s':S}(F K:List Nat)(h:Ox.frz F K s=some (cs,s'))(k:JK X (.code c::r) QA s')(hc:allP cs:=by(first|exact trivial|(try dsimp only[allP,inK,idxC,loC,lohiC,fullC,underG,List.append,List.nil_append,List.cons_append,Ty.den,Ty.dflt,Int.toNat_natCast,List.length_cons,List.length_nil] at *);first|omega|((repeat' (first|exact trivial|assumption|refine And.intro ?_ ?_|exact fun h=>h|(intro hpk;first|exact hpk|simp only[wantB,hpk,Bool.not_false,Bool.not_true])))<;>omega)|fail)):JK X (.code c::r) QA s:=JC.frz F K h hc k
theorem j1f{r:List Fr}{cs:List Prop}{s':S}(F K:List Nat)(h:Ox.frz F K s=some (cs,s'))(k:JK X (.ops md all l::r) QA s')(hc:allP cs:=by(first|exact trivial|(try dsimp only[allP,inK,idxC,loC,lohiC,fullC,underG,List.append,List.nil_append,List.cons_append,Ty.den,Ty.dflt,Int.toNat_natCast,List.length_cons,List.length_nil] at *);first|omega|((repeat' (first|exact trivial|assumption|refine And.intro ?_ ?_|exact fun h=>h|(intro hpk;first|exact hpk|simp only[wantB,hpk,Bool.not_false,Bool.not_true])))<;>omega)|fail)):JK X (.ops md all l::r) QA s:=JL.frz F K h hc k
section
variable {L:List (Nat×AV)}{H:List (Nat×HO)}{nx d n:Nat}{rr:List Fr}{om:Operand}{c1:List Prop}{kt vt:Ty}{es:List (Ent kt vt)}{clk m since last:Nat}{seen seen':List Nat}{ty:TypeId}{ps:String}{af:Array Edge}{e:Ent kt vt}
end
section
variable {op:Op}{L:List (Nat×AV)}{H:List (Nat×HO)}{nx d:Nat}{cs:List Prop}{ty:TypeId}{ps:String}{af:Array Edge}{g:Bool}{gg:Nat×Bool}{rr:List Fr}{f:FuncId}{args r:AV}
theorem JK.sc(h:callA X.T op ⟨L,H,nx⟩=some (cs,f,args))(hf:Fn X.P f args (·=r))(hr:r.scal=true)(hd:ltB d X.n=true)(k:JK X (.ops md all l::rr) QA ⟨(d,r)::L,H,nx⟩)(hc:allP cs) :
  JK X (.ops md all (⟨some d,op,ty,ps,af,none⟩::l)::rr) QA ⟨L,H,nx⟩:=JL.s1 (L:=L) (H:=H) (nx:=nx) h hf hr (q4y hr) hd hc k
theorem JK.scg(hg:gOf all L (some gg)=some g)(h:callA X.T op ⟨L,H,nx⟩=some (cs,f,args))(hf:g=true→Fn X.P f args (·=r))(hr:r.scal=true)(hd:ltB d X.n=true)(k:JK X (.ops md all l::rr) QA ⟨(d,.gd g r)::L,H,nx⟩)(hc:g=true→allP cs) :
  JK X (.ops md all (⟨some d,op,ty,ps,af,some gg⟩::l)::rr) QA ⟨L,H,nx⟩:=JL.s1g (L:=L) (H:=H) (nx:=nx) hg h hf hr (q4y hr) hd hc k
theorem JK.cl{R:AV→Prop}(h:callA X.T op ⟨L,[],nx⟩=some (cs,f,args))(hf:Fn X.P f args R)(hd:ltB d X.n=true)(k:∀ r,R r→JK X (.ops true all l::rr) QA ⟨(d,r)::L,H,nx⟩)(hc:allP cs) :
  JK X (.ops true all (⟨some d,op,ty,ps,af,none⟩::l)::rr) QA ⟨L,H,nx⟩:=JL.c1 (L:=L) (H:=H) (nx:=nx) h hf hd hc k
theorem JK.ce(h:callA X.T op ⟨L,[],nx⟩=some (cs,f,args))(hf:Fn X.P f args (·=r))(hd:ltB d X.n=true)(k:JK X (.ops true all l::rr) QA ⟨(d,r)::L,H,nx⟩)(hc:allP cs) :
  JK X (.ops true all (⟨some d,op,ty,ps,af,none⟩::l)::rr) QA ⟨L,H,nx⟩:=JK.cl h hf hd (fun _ e=>e▸k) hc
theorem JK.gT(hg:gOf all L (some gg)=some g)(hgt:g=true){dd:Option Nat}(k:JK X (.ops true all (⟨dd,op,ty,ps,af,none⟩::l)::rr) QA ⟨L,H,nx⟩):JK X (.ops true all (⟨dd,op,ty,ps,af,some gg⟩::l)::rr) QA ⟨L,H,nx⟩:=JL.gT hg hgt k
theorem JK.gF(hg:gOf all L (some gg)=some g)(hgf:g=false)(hd:ltB d X.n=true)(k:JK X (.ops true all l::rr) QA ⟨(d,.undef)::L,H,nx⟩):JK X (.ops true all (⟨some d,op,ty,ps,af,some gg⟩::l)::rr) QA ⟨L,H,nx⟩:=JL.gF (L:=L) (H:=H) (nx:=nx) hg hgf hd k
end
end Ox
namespace Ox
open Go Go.RowKit
variable {X:Ctx}{s:S}{M:Mem}{ρ:Env}{a a':Act}{w w':World}{QA:Exit→S→Prop}{all l:List Oper}{o:Oper}
abbrev Ctx.at(X:Ctx)(M0:Mem)(n:Nat)(rd:Option Nat):Ctx:=⟨X.P,X.T,X.ET,X.MT,X.E,M0,n,rd,X.up,X.dp⟩
theorem HO.ok_at{M0:Mem}{n:Nat}{rd:Option Nat}{l:Nat}{o:HO}(h:o.ok X M ρ l w):o.ok (X.at M0 n rd) M ρ l w:=by cases o<;>exact h
theorem HO.of_at{M0:Mem}{n:Nat}{rd:Option Nat}{l:Nat}{o:HO}(h:o.ok (X.at M0 n rd) M ρ l w):o.ok X M ρ l w:=by cases o<;>exact h
theorem SAT.at(h:SAT X M ρ s w){M0:Mem}(n:Nat)(rd:Option Nat)(L:List (Nat×AV))(h1:∀ b o,M0 b=some o→M b=some o)(h2:∀ b,b<X.E.heap.size→M b=M0 b):SAT (X.at M0 n rd) M ρ ⟨L,s.H,s.nx⟩ w:=
 ⟨h.below,h1,h2,h.mem,fun l o hl=>let ⟨a,b,c⟩:=h.own l o hl;⟨a,b,HO.ok_at c⟩,h.apart,h.notM⟩
theorem SAT.since(h0:SAT X M ρ s w){M':Mem}{ρ':Env}{s':S}{n:Nat}{rd:Option Nat}(h:SAT (X.at M n rd) M' ρ' s' w')(L:List (Nat×AV)):SAT X M' ρ' ⟨L,s'.H,s'.nx⟩ w':=
 ⟨h.below,fun b o hb=>h.msub b o (h0.msub b o hb),fun b hb=>(h.mnew b hb).trans (h0.mnew b hb),h.mem,fun l o hl=>let ⟨a,b,c⟩:=h.own l o hl;⟨a,b,HO.of_at c⟩,h.apart,h.notM⟩
theorem SAT.regs(h:SAT X M ρ s w)(L:List (Nat×AV)):SAT X M ρ ⟨L,s.H,s.nx⟩ w:=⟨h.below,h.msub,h.mnew,h.mem,h.own,h.apart,h.notM⟩
def hasY(i n lab:Nat)(H:List (Nat×HO)):Prop:=∃ lf Lf,lk H lf=some (.fr i Lf)∧lk Lf n=some (.lf (.yld lab))
theorem hasY.blk{i n lab:Nat}(hy:hasY i n lab s.H)(h:SAT X M ρ s w):X.up i n=.func (.yield (ρ.blk lab)) #[] #[]∧lab<s.nx:=by
 obtain⟨lf,Lf,h1,h2⟩:=hy
 obtain⟨_,e2,e3⟩:=h.own lf _ h1
 simp only[HO.ok] at e3
 have h3:=e3.2 n _ h2
 rw[x5] at h3
 simp only[Leaf.at,Option.some.injEq] at h3
 exact⟨h3.1.symm,e2 _ (p4 h2)⟩
def FO(X:Ctx)(f:FuncId)(args:AV)(H:List (Nat×HO))(nx:Nat)(Q:AV→List (Nat×HO)→Nat→Prop):Prop:=
 ∀ M0 M ρ w vs,SAT (X.at M0 0 none) M ρ ⟨[],H,nx⟩ w→args.bd nx→args.rvs M ρ vs→Calls X.P f vs.toArray w fun e w'=>
  ∃ v r H' nx' M' ρ',e=.returned v∧SAT (X.at M 0 none) M' ρ' ⟨[],H',nx'⟩ w'∧r.bd nx'∧r.rv M' ρ' v∧Q r H' nx'
theorem q33{s':S}(h:JW X s' s)(k:JL X true all QA l s'):JL X true all QA l s:=fun M ρ a w h1 h2=>by
 obtain⟨ρ',e1,e2⟩:=h M ρ a w h1 h2
 exact k M ρ' a w e1 e2
end Ox
namespace Ox
open Go Go.RowKit
variable {X:Ctx}{s:S}{M:Mem}{ρ:Env}{a:Act}{w w':World}{QA:Exit→S→Prop}{all l:List Oper}{P:Program}
variable {L:List (Nat×AV)}{H:List (Nat×HO)}{nx d n:Nat}{rr:List Fr}{om ok:Operand}{c1 c2:List Prop}{ty:TypeId}{ps:String}{af:Array Edge}{md:Bool}
section
variable {kt vt:Ty}{t kid vid:TypeId}{es:List (Ent kt vt)}{ms:Array MapEntry}{clk b:Nat}{x:kt.den}{cx:List Value}
def mHas(es:List (Ent kt vt))(x:kt.den):Bool:=(mIdx es x).isSome
theorem q94(hT:MapT P kt vt t kid vid)(hb:w.heap[b]?=some (.map ms clk))(hm:MapRep M kt vt es ms.toList)(hx:Rep M kt x cx) :
  ∃ vc,Rep M vt (mGet es x vt.dflt) vc∧(Instr.lookup t (.map (some b)) (kt.wrap cx) true).run P w=.ok (.tuple #[vt.wrap vc,.bool (mHas es x)]) w:=by
 have hf:=q5n hT.key hx w es ms.toList hm
 unfold Instr.lookup
 simp only[Sem.run_bind,run_underlying hT.under,Result.andThen_ok,MapKept.run_getObj_map hb,Sem.run_pure,q2e hT.key hx]
 unfold mGet mHas
 cases hi:mIdx es x with
 |none=>
  rw[hi] at hf
  refine⟨vt.zc,y9 M vt,?_⟩
  simp[hf,z20 hT.val]
 |some j=>
  rw[hi] at hf
  obtain⟨e,h1,h2⟩:=hf
  obtain⟨e',h3,⟨_,⟨vc,h4,h5⟩,_⟩⟩:=hm.get h1
  refine⟨vc,by simp only[h3,Option.map_some,Option.getD_some];exact h4,?_⟩
  simp[h2,h5]
theorem z5s(hT:MapT X.P kt vt t kid vid)(hu:opd L om=some (c1,.lf (.mp n)))(hl:lk H n=some (.map kt vt es clk))(hv:opd L ok=some (c2,.val kt x))(hd:ltB d X.n=true)(hc:allP (c1++c2))
  (k:JL X true all QA l ⟨(d,.tup (.acons (.val vt (mGet es x vt.dflt)) (.acons (.val .bool (mHas es x)) .anil)))::L,H,nx⟩):JL X true all QA (⟨some d,.lookup t om ok true,ty,ps,af,none⟩::l) ⟨L,H,nx⟩:=by
 rw[q9] at hc
 refine q7d rfl rfl (u0 hd) (v:=.tup (.acons (.val vt (mGet es x vt.dflt)) (.acons (.val .bool (mHas es x)) .anil))) (s':=⟨L,H,nx⟩) (fun M ρ a w h1 h2=>?_) k
 obtain⟨ms,hb,hm⟩:=q55 h1 hl
 obtain⟨cx,hx,hxe⟩:=q1j hv hc.2 h2
 obtain⟨vc,r1,r2⟩:=q94 hT hb hm hx
 refine⟨ρ,w,_,?_,Env.upTo.refl _ _,Nat.le_refl _,rfl,h1,⟨trivial,trivial,trivial⟩,.inl ⟨.tuple #[vt.wrap vc,.bool (mHas es x)],rfl,?_⟩⟩
 ·simp only[execOp,q57 hu hc.1 h2,hxe,Sem.run_bind,r2,Result.andThen_ok,Sem.run_pure]
 ·simp only[AV.rv,AV.rvs]
  exact⟨[vt.wrap vc,.bool (mHas es x)],⟨vt.wrap vc,[.bool (mHas es x)],⟨vc,r1,rfl⟩,⟨.bool (mHas es x),[],⟨[.bool (mHas es x)],by simp only[Rep],rfl⟩,rfl,rfl⟩,rfl⟩,rfl⟩
theorem z5t(hT:MapT X.P kt vt t kid vid)(hu:opd L om=some (c1,.lf (.mp n)))(hl:lk H n=some (.map kt vt es clk))(hv:opd L ok=some (c2,.val kt x))(hd:ltB d X.n=true)
  (k:JK X (.ops true all l::rr) QA ⟨(d,.tup (.acons (.val vt (mGet es x vt.dflt)) (.acons (.val .bool (mHas es x)) .anil)))::L,H,nx⟩) (hc:allP (c1++c2)):JK X (.ops true all (⟨some d,.lookup t om ok true,ty,ps,af,none⟩::l)::rr) QA ⟨L,H,nx⟩:=
 z5s hT hu hl hv hd hc k
end
end Ox
namespace Ox
open Go Go.RowKit
variable {X:Ctx}{s:S}{M:Mem}{ρ:Env}{a:Act}{w w':World}{QA:Exit→S→Prop}{all l:List Oper}{P:Program}
variable {L:List (Nat×AV)}{H:List (Nat×HO)}{nx d n:Nat}{rr:List Fr}{c1 c2:List Prop}{ty ty2:TypeId}{ps ps2:String}{af af2:Array Edge}{md:Bool}
def funB(P:Program)(t:TypeId):Bool:=match P.info? t with
 |some i=>(match i.zero with|some .nilFunc=>true|_=>false)&&(i.size==1)&&(match P.underlying t with|some (.func ..)=>true|_=>false)
 |none=>false
structure FunT(P:Program)(t:TypeId):Prop where
 zero:∀ w,(zeroValue t).run P w=.ok .nilFunc w
 size:∀ w,(Go.sizeOf t).run P w=.ok 1 w
 agg:∀ w,(isAgg t).run P w=.ok false w
theorem FunT.of{P:Program}{t:TypeId}(h:funB P t=true):FunT P t:=by
 unfold funB at h
 cases hi:P.info? t with
 |none=>rw[hi] at h;cases h
 |some i=>
  rw[hi] at h
  simp only[Bool.and_eq_true,beq_iff_eq] at h
  obtain⟨⟨h1,h2⟩,h3⟩:=h
  refine⟨fun w=>?_,fun w=>?_,fun w=>?_⟩
  ·split at h1
   ·rename_i hz;simp[zeroValue,typeInfo,hi,hz]
   ·cases h1
  ·simp[Go.sizeOf,typeInfo,hi,h2]
  ·split at h3
   ·rename_i hu;simp[isAgg,run_underlying hu]
   ·cases h3
def AV.fnB:AV→Bool
 |.fn ..=>true
 |_=>false
theorem fnB_rv{v:AV}(h:v.fnB=true){u:Value}(hu:v.rv M ρ u):∃ f fs ks,u=.func (.func f) fs ks:=by
 cases v with
 |fn f x y=>simp only[AV.rv] at hu;obtain⟨fs,ks,_,_,rfl⟩:=hu;exact⟨_,_,_,rfl⟩
 |_=>simp[AV.fnB] at h
theorem z1x{α:Type}(a:Array α)(x:α)(f:α→α):(a.push x).modify a.size f=a.push (f x):=by
 apply Array.ext
 ·simp
 ·intro i h1 h2
  rw[Array.getElem_modify]
  have hi:i<a.size+1:=by simpa using h2
  by_cases e:a.size=i
  ·subst e;simp
  ·rw[if_neg e,Array.getElem_push_lt (by omega),Array.getElem_push_lt (by omega)]
theorem JL.layF{t:TypeId}{x:Operand}{v:AV}(hF:funB X.P t=true)(hu:opd (del L d) x=some (c1,v))(hv:v.fnB=true)(hc:allP c1)(hd:ltB d X.n=true)(k:JL X true all QA l ⟨(d,.pfn v)::L,H,nx⟩) :
  JL X true all QA (⟨some d,.alloc t,ty,ps,af,none⟩::⟨none,.store t (.tmp d) x,ty2,ps2,af2,none⟩::l) ⟨L,H,nx⟩:=by
 have hf:=FunT.of hF
 intro M ρ a w h1 h2
 let p:Value:=.pointer (some ⟨w.heap.size,0,none⟩)
 let w1:World:=w.alloc (.cells #[.nilFunc] t)
 have hE:=h1.below.size
 have hdn:d<X.n:=u0 hd
 have hsz:=h2.size
 have hr1:(execOp a.eval ⟨some d,.alloc t,ty,ps,af,none⟩).run X.P w=.ok (.value p) w1:=by
  simp only[execOp,Instr.alloc,Sem.run_bind,hf.zero,Result.andThen_ok,newVar,newRow,run_newObj,Sem.run_pure]
  rfl
 have hreg:REG X M ρ ⟨del L d,H,nx⟩ (a.put (some d) p):=⟨by simp[Act.put,hsz],h2.defers,fun e y he=>by
  obtain⟨e1,e2⟩:=q7z he
  have:=h2.reg e y e2
  refine⟨this.1,?_⟩
  have e3:((a.put (some d) p).tmps.getD e Go.undef)=a.tmps.getD e Go.undef:=by
   simp only[Act.put,Array.getD_eq_getD_getElem?]
   rw[Array.getElem?_setIfInBounds_ne (Ne.symm e1)]
  rw[e3];exact this.2⟩
 obtain⟨hvb,hvr⟩:=z7 (s:=⟨del L d,H,nx⟩) hu hc hreg
 obtain⟨f,fs,ks,hfv⟩:=fnB_rv hv hvr
 let w2:World:=w.alloc (.cells #[(a.put (some d) p).eval x] t)
 have hnew:w1.heap[w.heap.size]?=some (.cells #[.nilFunc] t (0,0)):=World.alloc_heap_new w _
 have hpd:(a.put (some d) p).eval (.tmp d)=p:=by
  simp only[Act.eval,Act.put,Array.getD_eq_getD_getElem?]
  rw[Array.getElem?_setIfInBounds_self_of_lt (by omega)];rfl
 have hone:∀ y∈[(a.put (some d) p).eval x],y.oneCell'=true:=fun y hy=>by
  rw[List.mem_singleton.1 hy,hfv];rfl
 have hst:=run_storeCells_at X.P w.heap.size 0 t [(a.put (some d) p).eval x] 0 #[.nilFunc] w1 hnew (by simp) hone
 have hcells:((a.put (some d) p).eval x).cells=#[(a.put (some d) p).eval x]:=by rw[hfv];rfl
 have hset:w1.setRow w.heap.size (([Value.nilFunc].take (0+0)++[(a.put (some d) p).eval x]++[Value.nilFunc].drop (0+0+1)).toArray)=w2:=by
  show({heap:=(w.heap.push (.cells #[.nilFunc] t)).modify w.heap.size _,tape:=w.tape,drawn:=w.drawn,os:=w.os,output:=w.output}:World)={heap:=w.heap.push _,tape:=w.tape,drawn:=w.drawn,os:=w.os,output:=w.output}
  rw[z1x]
  rfl
 have hr2:(execOp (a.put (some d) p).eval ⟨none,.store t (.tmp d) x,ty2,ps2,af2,none⟩).run X.P w1=.ok .skip w2:=by
  have h3:(storeVar t ⟨w.heap.size,0,none⟩ ((a.put (some d) p).eval x)).run X.P w1=.ok () w2:=by
   unfold storeVar
   simp only[Sem.run_bind,hf.size,Result.andThen_ok,hcells]
   simp only[List.size_toArray,List.length_cons,List.length_nil,ne_eq,not_true_eq_false,if_false,Array.toList]
   rw[hst]
   exact congrArg (Result.ok ()) hset
  simp only[execOp,Instr.storeAt,hpd,p,Instr.sureAddr,Sem.run_bind,Sem.run_pure,Result.andThen_ok]
  rw[h3]
  rfl
 let M':Mem:=fun b=>if b=w.heap.size then some (.cells #[(a.put (some d) p).eval x] t (0,0)) else M b
 have hfull:∀ b o,M b=some o→M' b=some o:=fun b o hb=>by
  show(if b=w.heap.size then _ else _)=_
  rw[if_neg (by have:=(Array.getElem?_eq_some_iff.1 (h1.mem _ _ hb)).1;omega)];exact hb
 have hM:Mem.le M M':=fun b c ty fz hb=>hfull b _ hb
 have hat:w2.heap[w.heap.size]?=some (.cells #[(a.put (some d) p).eval x] t (0,0)):=World.alloc_heap_new w _
 have hbl:Below w.heap.size w w2:=(Below.refl _ _).alloc (Nat.le_refl _) _
 have hs2:SAT X M' ρ ⟨L,H,nx⟩ w2:=h1.ext hbl hM (fun b o hb=>by
  by_cases e:b=w.heap.size
  ·subst e
   have:some (Obj.cells #[(a.put (some d) p).eval x] t (0,0))=some o:=by
    have hb':(if w.heap.size=w.heap.size then some (Obj.cells #[(a.put (some d) p).eval x] t (0,0)) else M w.heap.size)=some o:=hb
    rwa[if_pos rfl] at hb'
   rw[← this];exact hat
  ·have hb':(if b=w.heap.size then some (Obj.cells #[(a.put (some d) p).eval x] t (0,0)) else M b)=some o:=hb
   rw[if_neg e] at hb'
   have hlt:=(Array.getElem?_eq_some_iff.1 (h1.mem b o hb')).1
   rw[hbl.block b hlt];exact h1.mem b o hb') (fun b hb=>by
  show(if b=w.heap.size then _ else _)=_
  rw[if_neg (by omega)])
 have hreg2:REG X M' ρ ⟨(d,.pfn v)::L,H,nx⟩ ((a.put (some d) p).put none Go.undef):=by
  refine⟨by simp[Act.put,hsz],let ⟨Ds,e1,e2,e3,e4⟩:=h2.defers;⟨Ds,e1,e2,fun D hD=>⟨(e3 D hD).1,hfull _ _ (e3 D hD).2⟩,e4⟩,fun e y he=>?_⟩
  simp only[lk] at he
  by_cases hde:d=e
  ·subst hde
   rw[if_pos rfl] at he
   injection he with he;subst he
   refine⟨hvb,?_⟩
   simp only[AV.rv]
   refine⟨w.heap.size,_,t,(0,0),?_,?_,w5 hM (Env.upTo.refl ρ nx) hvb hvr⟩
   ·show(a.put (some d) p).tmps.getD d Go.undef=p
    simp only[Act.put,Array.getD_eq_getD_getElem?]
    rw[Array.getElem?_setIfInBounds_self_of_lt (by omega)];rfl
   ·show(if w.heap.size=w.heap.size then _ else _)=_
    rw[if_pos rfl]
  ·rw[if_neg hde] at he
   have:=h2.reg e y he
   refine⟨this.1,?_⟩
   have e3:(((a.put (some d) p).put none Go.undef).tmps.getD e Go.undef)=a.tmps.getD e Go.undef:=by
    simp only[Act.put,Array.getD_eq_getD_getElem?]
    rw[Array.getElem?_setIfInBounds_ne hde]
   rw[e3]
   exact w5 hM (Env.upTo.refl ρ nx) this.1 this.2
 refine j7 (v5 rfl) (v6 rfl hr1 (j7 (v5 rfl) (q17 rfl hr2 ?_)))
 exact k M' ρ _ w2 (hs2.regs _) hreg2
theorem z8y{t:TypeId}{x:Operand}{v:AV}(hF:funB X.P t=true)(hu:opd s.L x=some (c1,.pfn v))(hc:allP c1):∀ {M ρ a w0} {d:Option Nat} {gu:Option (Nat×Bool)},SAT X M ρ s w0→REG X M ρ s a→v.bd s.nx∧∃ z,v.rv M ρ z∧∀ w1,Below w0.heap.size w0 w1→(execOp a.eval ⟨d,.load t x,ty,ps,af,gu⟩).run X.P w1=.ok (.value z) w1:=by
 have hf:=FunT.of hF
 intro M ρ a w0 d gu h1 h2
 obtain⟨hb,hr⟩:=z7 hu hc h2
 simp only[AV.rv] at hr
 obtain⟨b,fv,ty',fz,e1,e2,e3⟩:=hr
 refine⟨hb,fv,e3,fun w1 hw=>?_⟩
 have hm:=h1.mem b _ e2
 have hlt:=(Array.getElem?_eq_some_iff.1 hm).1
 have hm1:w1.heap[b]?=some (.cells #[fv] ty' fz):=by rw[hw.block b hlt];exact hm
 have h3:(loadVar t ⟨b,0,none⟩).run X.P w1=.ok fv w1:=by
  unfold loadVar
  simp only[Sem.run_bind,hf.agg,Result.andThen_ok]
  simp[x9 hm1]
 simp only[execOp,e1,Instr.loadAt,Instr.sureAddr,Sem.run_bind,Sem.run_pure,Result.andThen_ok,h3]
theorem JL.ldF{t:TypeId}{x:Operand}{v:AV}(hF:funB X.P t=true)(hu:opd s.L x=some (c1,.pfn v))(hc:allP c1)(hd:ltB d X.n=true)(k:JL X md all QA l ⟨(d,v)::s.L,s.H,s.nx⟩):JL X md all QA (⟨some d,.load t x,ty,ps,af,none⟩::l) s:=by
 cases md
 ·intro M ρ a w0 h1 h2
  obtain⟨hb,z,hz,hr⟩:=z8y (d:=some d) (gu:=none) (ty:=ty) (ps:=ps) (af:=af) hF hu hc h1 h2
  simp only[wpQuiet,Region.wanted,if_true]
  refine⟨z,fun w hw=>?_,k M ρ _ w0 (h1.regs _) (h2.putO (d:=some d) (dstOk.spec (u0 hd)) hb hz)⟩
  unfold Oper.quietAt
  rw[hr w hw]
  exact⟨rfl,rfl⟩
 ·intro M ρ a w h1 h2
  obtain⟨hb,z,hz,hr⟩:=z8y (d:=some d) (gu:=none) (ty:=ty) (ps:=ps) (af:=af) hF hu hc h1 h2
  exact j7 (v5 rfl) (v6 rfl (hr w (Below.refl _ _)) (k M ρ _ w (h1.regs _) (h2.putO (d:=some d) (dstOk.spec (u0 hd)) hb hz)))
theorem JK.layF{t:TypeId}{x:Operand}{v:AV}(hF:funB X.P t=true)(hu:opd (del L d) x=some (c1,v))(hv:v.fnB=true)(hd:ltB d X.n=true)(hc:allP c1)(k:JK X (.ops true all l::rr) QA ⟨(d,.pfn v)::L,H,nx⟩) :
  JK X (.ops true all (⟨some d,.alloc t,ty,ps,af,none⟩::⟨none,.store t (.tmp d) x,ty2,ps2,af2,none⟩::l)::rr) QA ⟨L,H,nx⟩:=JL.layF hF hu hv hc hd k
theorem JK.ldF{t:TypeId}{x:Operand}{v:AV}(hF:funB X.P t=true)(hu:opd L x=some (c1,.pfn v))(hd:ltB d X.n=true)(hc:allP c1)(k:JK X (.ops md all l::rr) QA ⟨(d,v)::L,H,nx⟩):JK X (.ops md all (⟨some d,.load t x,ty,ps,af,none⟩::l)::rr) QA ⟨L,H,nx⟩:=
 JL.ldF (s:=⟨L,H,nx⟩) hF hu hc hd k
section
variable {kt:Ty}{t:TypeId}{om ok:Operand}{c2:List Prop}{x y:kt.den}{dd:Nat}{g:Bool}{gg:Nat×Bool}
end
end Ox
namespace Ox
open Go Go.RowKit
variable {X:Ctx}{s:S}{M:Mem}{ρ:Env}{a:Act}{w w':World}{QA:Exit→S→Prop}{all l:List Oper}{md:Bool}
variable {L L':List (Nat×AV)}{H H':List (Nat×HO)}{nx nx':Nat}
def subH(H H':List (Nat×HO)):Prop:=∀ m o,lk H' m=some o→lk H m=some o
theorem JW.refl(s:S):JW X s s:=fun M ρ a w h1 h2=>⟨ρ,h1,h2⟩
theorem JW.trans{s1 s2 s3:S}(h:JW X s1 s2)(k:JW X s2 s3):JW X s1 s3:=fun M ρ a w h1 h2=>by
 obtain⟨ρ1,e1,e2⟩:=k M ρ a w h1 h2
 exact h M ρ1 a w e1 e2
section
variable {r:List Fr}{eid:TypeId}{e t:Ty}{xs:List e.den}{x:t.den}{c:Code}
end
theorem JK.weakO{r:List Fr}{s s':S}(h:JW X s' s)(k:JK X (.ops true all l::r) QA s'):JK X (.ops true all l::r) QA s:=q33 h k
theorem FO.args{f:FuncId}{az az':AV}{Q:AV→List (Nat×HO)→Nat→Prop}(h:FO X f az H nx Q)(hb:az.bd nx)(hr:∀ M ρ vs,az'.rvs M ρ vs→az.rvs M ρ vs):FO X f az' H nx Q:=
 fun M0 M ρ w vs hS _ hvs=>h M0 M ρ w vs hS hb (hr M ρ vs hvs)
theorem JK.inl{r:List Fr}{d:Nat}{ty:TypeId}{ps:String}{af:Array Edge}(Kp:List Nat){f:FuncId}{fn:Func}{c:Code}{fst cap az:AV}{cs1 cs2:List Prop}{fo:Operand}{args:Array Operand}{tys:Array TypeId}
  (hu:opd L fo=some (cs1,.fn f fst cap)) (ha:opds L args.toList=some (cs2,az)) (hc:allP (cs1++cs2)) (hf:X.P.funcs[f]?=some fn) (hb:fn.body=some c) (hcall:∀ az w,(callFunc f az).run X.P w=.ok (.enter f az) w)
  (hn:argN (apA fst (apA az cap))≤fn.ntmps) (hd:ltB d X.n=true)
  (h:∀ M0 up,JK (X.sub M0 fn.ntmps none up) [.code c] (inlQ X fn.results.toList fun v L H nx=>JK X (.ops true all l::r) QA ⟨(d,v)::L,H,nx⟩) ⟨argL (apA fst (apA az cap)) 0,(nx,.fr X.dp (svL L Kp))::H,nx+1⟩) :
  JK X (.ops true all (⟨some d,.call {callee:=.value fo,args:=args,argTypes:=tys},ty,ps,af,none⟩::l)::r) QA ⟨L,H,nx⟩:=
 JL.inl (s:=⟨L,H,nx⟩) Kp rfl rfl hu ha hc hf hb hcall hn (u0 hd) h
def blkF(id:Nat):Code→Option Code
 |.block j c=>if j=id then some (.block j c) else blkF id c
 |.seq a b=>match blkF id a with|some r=>some r|none=>blkF id b
 |.loop c|.scope c=>blkF id c
 |.cond _ a b=>match blkF id a with|some r=>some r|none=>blkF id b
 |.rangeFunc _ _ a b=>match blkF id a with|some r=>some r|none=>blkF id b
 |_=>none
theorem subH.cons{n m:Nat}{o:HO}(h:subH H H')(hb:bdH n H')(hm:n≤m):subH ((m,o)::H) H':=fun j q hj=>by
 simp only[lk]
 rw[if_neg (fun e=>by subst e;have:=(q9o hb _ _ (p4 hj)).1;omega)]
 exact h j q hj
theorem z4y{r:List Fr}{c x y:Operand}{b:Bool}{cs1 cs2:List Prop}{d:Nat}{v:AV}{ty:TypeId}{ps:String}{af:Array Edge}(hc:opd L c=some (cs1,.val .bool b))(hb:b=true)(hx:opd L x=some (cs2,v))(hd:ltB d X.n=true)(h1:allP cs1)(h2:allP cs2)(k:JK X (.ops true all l::r) QA ⟨(d,v)::L,H,nx⟩) :
  JK X (.ops true all (⟨some d,.pick c x y,ty,ps,af,none⟩::l)::r) QA ⟨L,H,nx⟩:=JL.pickT hc hb hx hd h1 h2 k
theorem JK.pickF{r:List Fr}{c x y:Operand}{b:Bool}{cs1 cs2:List Prop}{d:Nat}{v:AV}{ty:TypeId}{ps:String}{af:Array Edge}(hc:opd L c=some (cs1,.val .bool b))(hb:b=false)(hy:opd L y=some (cs2,v))(hd:ltB d X.n=true)(h1:allP cs1)(h2:allP cs2)(k:JK X (.ops true all l::r) QA ⟨(d,v)::L,H,nx⟩) :
  JK X (.ops true all (⟨some d,.pick c x y,ty,ps,af,none⟩::l)::r) QA ⟨L,H,nx⟩:=JL.pickF hc hb hy hd h1 h2 k
def lpF:Code→Option Code
 |.loop c=>some (.loop c)
 |.block _ c|.scope c=>lpF c
 |.seq a b=>match lpF a with|some r=>some r|none=>lpF b
 |.cond _ a b=>match lpF a with|some r=>some r|none=>lpF b
 |.rangeFunc _ _ a b=>match lpF a with|some r=>some r|none=>lpF b
 |_=>none
def lpC(c:Option Code):Code:=match c with|some c=>(lpF c).getD .skip|none=>.skip
end Ox
namespace Go.Proofs.YtjfafggkkjgpeaaGreatDoor
open Go Go.RowKit Ox
def tys:List (Nat×Ty):=[
 (2,(.int .i64)),
 (3,(.int .i64)),
 (4,.bool),
 (5,(.int .u8)),
 (6,(.int .u8)),
 (7,(.cons (.int .i64) (.cons (.int .i64) (.cons .bool (.cons (.int .u8) .nil))))),
 (8,(.cons (.int .i64) (.cons (.int .i64) (.cons .bool (.cons (.int .u8) .nil))))),
 (12,(.int .u64)),
 (21,(.int .i32)),
 (25,(.slice (.int .i64))),
 (26,(.slice (.cons (.int .i64) (.cons (.int .i64) .nil)))),
 (27,(.cons (.int .i64) (.cons (.slice (.cons (.int .i64) (.cons (.int .i64) .nil))) .nil))),
 (28,(.cons (.int .i64) (.cons (.slice (.cons (.int .i64) (.cons (.int .i64) .nil))) .nil))),
 (29,(.slice (.int .u8))),
 (31,(.int .i64)),
 (37,(.slice (.int .i64))),
 (40,(.cons (.int .i64) (.cons (.int .i64) .nil))),
 (41,(.cons (.int .i64) (.cons (.int .i64) .nil))),
 (58,(.ptr (.cons (.cons (.int .i64) (.cons (.slice (.cons (.int .i64) (.cons (.int .i64) .nil))) .nil)) (.cons (.arr 1000 (.int .i64)) (.cons (.int .i64) (.cons (.arr 1000 (.int .i64)) .nil)))))),
 (71,(.arr 1000 (.int .i64))),
 (72,(.arr 1000 (.int .i64))),
 (73,(.arr 1000 (.int .i64))),
 (74,(.cons (.cons (.int .i64) (.cons (.slice (.cons (.int .i64) (.cons (.int .i64) .nil))) .nil)) (.cons (.arr 1000 (.int .i64)) (.cons (.int .i64) (.cons (.arr 1000 (.int .i64)) .nil))))),
 (75,(.cons (.cons (.int .i64) (.cons (.slice (.cons (.int .i64) (.cons (.int .i64) .nil))) .nil)) (.cons (.arr 1000 (.int .i64)) (.cons (.int .i64) (.cons (.arr 1000 (.int .i64)) .nil))))),
 (86,(.slice (.slice (.int .i64)))),
 (98,(.arr 8 (.int .i64))),
 (116,(.cons (.int .i64) (.cons (.int .i64) .nil))),
 (117,(.cons (.int .i64) (.cons (.int .i64) .nil))),
 (119,(.cons (.int .i64) (.cons (.int .i64) (.cons (.int .i64) .nil)))),
 (120,(.cons (.int .i64) (.cons (.int .i64) (.cons (.int .i64) .nil)))),
 (124,(.slice (.cons (.int .i64) (.cons (.int .i64) .nil)))),
 (129,(.cons (.int .i64) (.cons (.int .i64) .nil))),
 (130,(.cons (.int .i64) (.cons (.int .i64) .nil))),
 (143,(.cons (.int .i64) (.cons (.int .i64) (.cons (.int .i64) .nil)))),
 (144,(.cons (.int .i64) (.cons (.int .i64) (.cons (.int .i64) .nil)))),
 (153,(.slice (.cons (.int .i64) (.cons (.int .i64) .nil)))),
 (154,(.slice (.cons (.int .i64) (.cons (.int .i64) .nil)))),
 (159,(.cons (.int .i64) (.cons (.int .i64) .nil))),
 (160,(.cons (.int .i64) (.cons (.int .i64) .nil))),
 (164,(.slice (.cons (.int .i64) (.cons (.int .i64) .nil)))),
 (185,(.arr 8 (.int .i64))),
 (197,(.cons (.int .i64) (.cons (.int .i64) .nil))),
 (198,(.cons (.int .i64) (.cons (.int .i64) .nil))),
 (228,(.cons (.int .i64) (.cons (.int .i64) .nil))),
 (229,(.cons (.int .i64) (.cons (.int .i64) .nil))),
 (234,(.int .u64)),
 (235,(.int .u64)),
 (314,(.int .u32)),
 (316,(.int .u64)),
 (323,(.int .i64)),
 (341,(.int .u64)),
 (345,(.ptr (.int .i64))),
 (351,(.ptr (.int .u64))),
 (369,(.int .u8)),
 (370,(.int .u8)),
 (372,(.ptr (.int .u8))),
 (373,(.int .i32)),
 (374,(.int .i32))]
def ets:List (Nat×Nat):=[(25,3),(26,41),(29,5),(37,2),(86,25)]
def mts:List (Nat×(Nat×Nat)):=[(112,(117,120))]
theorem tab:tabB Tryz.prog tys ets mts=true:=by decide +kernel
theorem xok{X:Ctx}(h1:X.P=Tryz.prog)(h2:X.T=tys)(h3:X.ET=ets)(h4:X.MT=mts):XOK X:=z5o tab h1 h2 h3 h4
theorem xk{E:World}{M0:Mem}{n:Nat}{rd:Option Nat}{up:Nat→Nat→Value}{dp:Nat}:XOK ⟨Tryz.prog,tys,ets,mts,E,M0,n,rd,up,dp⟩:=xok rfl rfl rfl rfl
theorem j8:funB Tryz.prog 195=true:=by decide +kernel
end Go.Proofs.YtjfafggkkjgpeaaGreatDoor
namespace Ox.Two
abbrev Ev:=List (Int×Int×Unit)
def isSay(n:Nat)(s:Int):Prop:=(1≤s∧s≤n)∨(-(n:Int)≤s∧s≤-1)
def valid(n:Nat)(ev:Ev):Prop:=∀ x∈ev,isSay n x.1∧isSay n x.2.1
def holds(v:Nat→Bool)(s:Int):Bool:=if s<0 then !v (-1-s).toNat else v (s-1).toNat
def Sat(ev:Ev)(v:Nat→Bool):Prop:=∀ x∈ev,holds v x.1=true∨holds v x.2.1=true
def Step(ev:Ev)(a b:Int):Prop:=∃ x∈ev,(x.1=-a∧x.2.1=b)∨(x.2.1=-a∧x.1=b)
inductive Ch(ev:Ev):Nat→Int→Int→Prop
 |nil (a:Int):Ch ev 0 a a
 |snoc {k:Nat} {a b c:Int}:Ch ev k a b→Step ev b c→Ch ev (k+1) a c
theorem isSay.neg{n:Nat}{s:Int}(h:isSay n s):isSay n (-s):=by unfold isSay at *;omega
theorem Step.say{n:Nat}{ev:Ev}(hv:valid n ev){a b:Int}(h:Step ev a b):isSay n a∧isSay n b:=by
 obtain⟨x,hx,h|h⟩:=h
 ·have:=hv x hx;rw[h.1,h.2] at this;exact⟨by have:=this.1.neg;rwa[Int.neg_neg] at this,this.2⟩
 ·have:=hv x hx;rw[h.1,h.2] at this;exact⟨by have:=this.2.neg;rwa[Int.neg_neg] at this,this.1⟩
theorem Ch.cons{ev:Ev}{a b:Int}(h:Step ev a b):∀ {k:Nat} {c:Int},Ch ev k b c→Ch ev (k+1) a c
 |_,_,.nil _=>.snoc (.nil a) h
 |_,_,.snoc h1 h2=>.snoc (Ch.cons h h1) h2
theorem z88{n:Nat}(v:Nat→Bool){s:Int}(h:isSay n s):holds v (-s)=!holds v s:=by
 unfold holds
 unfold isSay at h
 by_cases hs:s<0
 ·rw[if_neg (by omega),if_pos hs,Bool.not_not];congr 1;omega
 ·rw[if_pos (by omega),if_neg hs];congr 2;omega
theorem Sat.step{n:Nat}{ev:Ev}{v:Nat→Bool}(hv:valid n ev)(h:Sat ev v){a b:Int}(hs:Step ev a b)(ha:holds v a=true):holds v b=true:=by
 have hsa:=(hs.say hv).1
 have hn:=z88 v hsa
 rw[ha] at hn
 obtain⟨x,hx,e|e⟩:=hs
 ·have:=h x hx
  rw[e.1,e.2,hn] at this
  simpa using this
 ·have:=h x hx
  rw[e.1,e.2,hn] at this
  simpa using this
end Ox.Two
namespace Ox.Sh
open Ox
abbrev Sh:=Int×Int×Int×Unit
abbrev da(s:Sh):Int:=s.1
abbrev dr(s:Sh):Int:=s.2.1
abbrev dp(s:Sh):Int:=s.2.2.1
abbrev z0:Sh:=(0,0,0,())
def nx(l:List Sh)(p:Int×Int)(n:Nat):Int×Int:=(p.1+da (l.getD n z0),Max.max (p.1+da (l.getD n z0)+dr (l.getD n z0)) p.2+dp (l.getD n z0))
def al(s:Sh):Int:=da s+dr s
def be(s:Sh):Int:=dr s+dp s
def okS(s:Sh):Prop:=0≤da s∧da s≤1000∧0≤dr s∧dr s≤1000∧0≤dp s∧dp s≤1000
def okD(l:List Sh):Prop:=∀ s∈l,okS s
theorem okD.get{l:List Sh}(h:okD l)(n:Nat):okS (l.getD n z0):=by
 by_cases hn:n<l.length
 ·rw[List.getD_eq_getElem?_getD,List.getElem?_eq_getElem hn];exact h _ (List.getElem_mem hn)
 ·rw[List.getD_eq_getElem?_getD,List.getElem?_eq_none (by omega)];exact⟨by decide,by decide,by decide,by decide,by decide,by decide⟩
theorem q6r{n:Nat}:∀ {a:List Nat},a.Nodup→n∈a→List.Perm a (n::a.filter fun k=>decide (k≠n))
 |b::r,hn,h=>by
  obtain⟨h1,h2⟩:=List.nodup_cons.1 hn
  by_cases e:b=n
  ·subst e
   have e:(r.filter fun k=>decide (k≠b))=r:=List.filter_eq_self.2 fun k hk=>decide_eq_true fun e:k=b=>h1 (by rw[← e];exact hk)
   rw[List.filter_cons_of_neg (by simp),e]
  ·rw[List.filter_cons_of_pos (by simpa using e)]
   have:=q6r h2 ((List.mem_cons.1 h).resolve_left fun e'=>e e'.symm)
   exact(this.cons b).trans (List.Perm.swap n b _)
end Ox.Sh
namespace Ox.Sh
open Ox
def sm(f:Nat→Int)(o:List Nat):Int:=(o.map f).sum
theorem y5(f:Nat→Int)(n:Nat)(o:List Nat):sm f (n::o)=f n+sm f o:=by simp[sm]
theorem z26(f:Nat→Int)(a b:List Nat):sm f (a++b)=sm f a+sm f b:=by simp[sm]
theorem q4c{f:Nat→Int}{a b:List Nat}(h:List.Perm a b):sm f a=sm f b:=by
 induction h with
 |nil=>rfl
 |cons x _ ih=>rw[y5,y5,ih]
 |swap x y l=>rw[y5,y5,y5,y5];omega
 |trans _ _ h1 h2=>exact h1.trans h2
section
variable {l:List Sh}{m n:Nat}(hm:okS (l.getD m z0))(hn:okS (l.getD n z0))
include hm hn
end
end Ox.Sh
namespace Ox.Sh
open Ox
def freeL(N:Nat)(row:List Nat):List Nat:=(List.range N).filter fun n=>decide (n∉row)
theorem z0j{N n:Nat}{row:List Nat}:n∈freeL N row↔n<N∧n∉row:=by unfold freeL;rw[List.mem_filter,List.mem_range,decide_eq_true_eq]
def dfsL(N:Nat):Nat→List Nat→List (List Nat)
 |0,row=>[row]
 |f+1,row=>(freeL N row).flatMap fun n=>dfsL N f (row++[n])
theorem q8t{N:Nat}{o:List Nat}:∀ {f:Nat} {row:List Nat},o∈dfsL N f row↔∃ z,o=row++z∧z.length=f∧z.Nodup∧∀ x∈z,x<N∧x∉row
 |0,row=>by
  rw[dfsL,List.mem_singleton]
  constructor
  ·rintro rfl;exact⟨[],by simp,rfl,List.nodup_nil,fun x hx=>by cases hx⟩
  ·rintro⟨z,rfl,h,_⟩;rw[List.length_eq_zero_iff.1 h,List.append_nil]
 |f+1,row=>by
  rw[dfsL,List.mem_flatMap]
  constructor
  ·rintro⟨n,hn,ho⟩
   obtain⟨z,h1,h2,h3,h4⟩:=q8t.1 ho
   have hn':=z0j.1 hn
   refine⟨n::z,by rw[h1,List.append_assoc];rfl,by simp[h2],List.nodup_cons.2 ⟨fun hz=>?_,h3⟩,fun x hx=>?_⟩
   ·exact(h4 n hz).2 (by simp)
   ·rcases List.mem_cons.1 hx with rfl|hx
    ·exact hn'
    ·exact⟨(h4 x hx).1,fun hr=>(h4 x hx).2 (List.mem_append_left _ hr)⟩
  ·rintro⟨z,rfl,h2,h3,h4⟩
   cases z with
   |nil=>simp at h2
   |cons n z=>
    obtain⟨k1,k2⟩:=List.nodup_cons.1 h3
    refine⟨n,z0j.2 (h4 n List.mem_cons_self),q8t.2 ⟨z,by simp,by simpa using h2,k2,fun x hx=>⟨(h4 x (List.mem_cons_of_mem _ hx)).1,fun hr=>?_⟩⟩⟩
    rcases List.mem_append.1 hr with hr|hr
    ·exact(h4 x (List.mem_cons_of_mem _ hx)).2 hr
    ·rw[List.mem_singleton.1 hr] at hx;exact k1 hx
theorem q8m:∀ {z a:List Nat},z.Nodup→a.Nodup→(∀ x∈z,x∈a)→a.length≤z.length→List.Perm z a
 |[],a,_,_,_,h=>by rw[List.length_eq_zero_iff.1 (Nat.le_zero.1 h)]
 |n::z,a,hz,ha,hs,h=>by
  obtain⟨h1,h2⟩:=List.nodup_cons.1 hz
  have hp:=q6r ha (hs n List.mem_cons_self)
  have hl:=hp.length_eq
  refine List.Perm.trans ?_ hp.symm
  refine List.Perm.cons n (q8m h2 (ha.filter _) (fun x hx=>?_) (by simp only[List.length_cons] at hl h;omega))
  rw[List.mem_filter]
  exact⟨hs x (List.mem_cons_of_mem _ hx),decide_eq_true fun e=>h1 (e▸hx)⟩
end Ox.Sh
namespace Ox.Se
open Ox
variable {E A:Nat→Int}
def pa(E A:Nat→Int):Nat→List Nat→Prop
 |_,[]=>True
 |i,j::r=>E i≤A j∧pa E A j r
def lst:Nat→List Nat→Nat
 |i,[]=>i
 |_,j::r=>lst j r
theorem q53:∀ (u:List Nat) (h x:Nat) (v:List Nat),pa E A h (u++x::v)↔pa E A h (u++[x])∧pa E A x v
 |[],h,x,v=>by simp[pa]
 |y::u,h,x,v=>by
  simp only[List.cons_append,pa]
  rw[q53 u y x v,and_assoc]
theorem q0w:∀ (t:List Nat) (h x:Nat),pa E A h (t++[x])↔pa E A h t∧E (lst h t)≤A x
 |[],h,x=>by simp[pa,lst]
 |y::t,h,x=>by
  simp only[List.cons_append,pa,lst]
  rw[q0w t y x,and_assoc]
theorem q6e:∀ (u:List Nat) (h x:Nat) (v:List Nat),lst h (u++x::v)=lst x v
 |[],_,_,_=>rfl
 |_::u,_,x,v=>q6e u _ x v
theorem z8k:∀ (t:List Nat) (h:Nat),lst h t∈h::t
 |[],_=>List.mem_cons_self
 |y::t,_=>List.mem_cons_of_mem _ (z8k t y)
def Cy(E A:Nat→Int)(c:Nat×List Nat):Prop:=pa E A c.1 (c.2++[c.1])
abbrev ps(c:Nat×List Nat):List Nat:=c.1::c.2
abbrev flat(L:List (Nat×List Nat)):List Nat:=L.flatMap ps
theorem Cy.rot{h:Nat}{u:List Nat}{x:Nat}{v:List Nat}(hc:Cy E A (h,u++x::v)):Cy E A (x,v++h::u)∧(ps (x,v++h::u)).Perm (ps (h,u++x::v))∧lst x (v++h::u)=lst h u:=by
 refine⟨?_,?_,q6e v x h u⟩
 ·unfold Cy at hc ⊢
  dsimp only at hc ⊢
  rw[List.append_assoc,List.cons_append,q53] at hc
  rw[List.append_assoc,List.cons_append,q53]
  exact⟨hc.2,hc.1⟩
 ·show(x::(v++h::u)).Perm (h::(u++x::v))
  have a:(x::(v++h::u))=(x::v)++(h::u):=rfl
  have b:(h::(u++x::v))=(h::u)++(x::v):=rfl
  rw[a,b]
  exact List.perm_append_comm
def arc(c:Nat×List Nat)(i j:Nat):Prop:=(∃ u v,c.2++[c.1]=u++j::v∧lst c.1 u=i)
theorem z06{c:Nat×List Nat}{i j:Nat}(hc:Cy E A c)(h:arc c i j):E i≤A j:=by
 obtain⟨u,v,e,rfl⟩:=h
 unfold Cy at hc
 rw[e,q53,q0w] at hc
 exact hc.1.2
theorem j0s{c:Nat×List Nat}{i j:Nat}(hc:Cy E A c)(h:arc c i j):∃ t,Cy E A (j,t)∧lst j t=i∧(ps (j,t)).Perm (ps c):=by
 obtain⟨u,v,e,hi⟩:=h
 obtain⟨h0,t0⟩:=c
 dsimp only at e hi
 rcases List.eq_nil_or_concat v with rfl|⟨v',x,rfl⟩
 ·have e':=List.append_inj' e rfl
  have e2:t0=u:=e'.1
  have e3:h0=j:=by simpa using e'.2
  subst e2 e3
  exact⟨t0,hc,hi,List.Perm.refl _⟩
 ·have e1:u++j::v'.concat x=(u++j::v')++[x]:=by simp
  rw[e1] at e
  have e':=List.append_inj' e rfl
  have e2:t0=u++j::v':=e'.1
  subst e2
  obtain⟨a,b,d⟩:=hc.rot
  exact⟨v'++h0::u,a,d.trans hi,b⟩
theorem z4s{c:Nat×List Nat}{i:Nat}(h:i∈ps c):∃ j,arc c i j:=by
 obtain⟨h0,t0⟩:=c
 have key:∀ (t:List Nat) (g:Nat),i∈g::t→∀ x,∃ j u v,t++[x]=u++j::v∧lst g u=i:=by
  intro t
  induction t with
  |nil=>intro g hg x;exact⟨x,[],[],rfl,(List.mem_singleton.1 hg).symm⟩
  |cons y t ih=>
   intro g hg x
   rcases List.mem_cons.1 hg with rfl|hg
   ·exact⟨y,[],t++[x],rfl,rfl⟩
   ·obtain⟨j,u,v,e,hl⟩:=ih y hg x
    exact⟨j,y::u,v,by rw[List.cons_append,e];rfl,hl⟩
 obtain⟨j,u,v,e,hl⟩:=key t0 h0 h h0
 exact⟨j,u,v,e,hl⟩
theorem arc_to{c:Nat×List Nat}{j:Nat}(h:j∈ps c):∃ i,arc c i j:=by
 have hm:j∈c.2++[c.1]:=by rcases List.mem_cons.1 h with h|h<;>simp[h]
 obtain⟨u,v,e⟩:=List.append_of_mem hm
 exact⟨_,u,v,e,rfl⟩
theorem arc_mem{c:Nat×List Nat}{i j:Nat}(h:arc c i j):i∈ps c∧j∈ps c:=by
 obtain⟨u,v,e,rfl⟩:=h
 have hj:j∈c.2++[c.1]:=by rw[e];simp
 refine⟨?_,by
  rcases List.mem_append.1 hj with h|h
  ·exact List.mem_cons_of_mem _ h
  ·rw[List.mem_singleton.1 h];exact List.mem_cons_self⟩
 cases u with
 |nil=>exact List.mem_cons_self
 |cons y u=>
  have h1:=z8k u y
  have h2:lst y u∈(y::u):=h1
  have:∃ w,c.2=(y::u)++w:=by
   rcases List.eq_nil_or_concat v with rfl|⟨v',x,rfl⟩
   ·exact⟨[],by rw[List.append_nil];exact(List.append_inj' e rfl).1⟩
   ·have e1:(y::u)++j::v'.concat x=((y::u)++j::v')++[x]:=by simp
    rw[e1] at e
    exact⟨j::v',(List.append_inj' e rfl).1⟩
  obtain⟨w,hw⟩:=this
  show lst y u∈ps c
  unfold ps
  rw[hw]
  exact List.mem_cons_of_mem _ (List.mem_append_left _ h2)
theorem join{c d:Nat×List Nat}{i p k q:Nat}(hc:Cy E A c)(hd:Cy E A d)(h1:arc c i p)(h2:arc d k q)(e1:E i≤A q)(e2:E k≤A p):∃ b,Cy E A b∧(ps b).Perm (ps c++ps d):=by
 obtain⟨t1,a1,a2,a3⟩:=j0s hc h1
 obtain⟨t2,b1,b2,b3⟩:=j0s hd h2
 refine⟨(p,t1++q::t2),?_,?_⟩
 ·unfold Cy at a1 b1 ⊢
  dsimp only at a1 b1 ⊢
  rw[List.append_assoc,List.cons_append,q53,q0w,q0w]
  rw[q0w] at a1 b1
  rw[a2] at a1 ⊢
  rw[b2] at b1 ⊢
  exact⟨⟨a1.1,e1⟩,b1.1,e2⟩
 ·show(p::(t1++q::t2)).Perm _
  exact List.Perm.append a3 b3
def cA(A:Nat→Int)(l:List Nat)(x:Int):Nat:=l.countP fun i=>decide (A i≤x)
theorem q1n{l m:List Nat}(h:l.Perm m)(x:Int):cA A l x=cA A m x:=h.countP_eq _
theorem cA_app(l m:List Nat)(x:Int):cA A (l++m) x=cA A l x+cA A m x:=List.countP_append
theorem cA_le(l:List Nat)(x:Int):cA A l x≤l.length:=List.countP_le_length
theorem g7(i:Nat)(l:List Nat)(x:Int):cA A (i::l) x=cA A l x+if A i≤x then 1 else 0:=by
 unfold cA
 rw[List.countP_cons]
 simp
theorem q60{l:List Nat}{x:Int}:cA A l x=l.length↔∀ i∈l,A i≤x:=by
 unfold cA
 rw[List.countP_eq_length]
 simp
theorem z3u(f:(Nat×List Nat)→Int):∀ L:List (Nat×List Nat),L≠[]→∃ c∈L,∀ d∈L,f d≤f c
 |[],h=>absurd rfl h
 |[c],_=>⟨c,List.mem_singleton.2 rfl,fun d hd=>by rw[List.mem_singleton.1 hd];exact Int.le_refl _⟩
 |c::d::L,_=>by
  obtain⟨b,hb,hm⟩:=z3u f (d::L) (by simp)
  by_cases h:f b≤f c
  ·refine⟨c,List.mem_cons_self,fun x hx=>?_⟩
   rcases List.mem_cons.1 hx with rfl|hx
   ·exact Int.le_refl _
   ·have:=hm x hx;omega
  ·refine⟨b,List.mem_cons_of_mem _ hb,fun x hx=>?_⟩
   rcases List.mem_cons.1 hx with rfl|hx
   ·omega
   ·exact hm x hx
def heads(Q:List (Nat×List Nat)):List Nat:=Q.map fun q=>q.1
def lasts(Q:List (Nat×List Nat)):List Nat:=Q.map fun q=>lst q.1 q.2
theorem q2f(q:Nat×List Nat)(Q:List (Nat×List Nat)):heads (q::Q)=q.1::heads Q:=rfl
theorem q2d(q:Nat×List Nat)(Q:List (Nat×List Nat)):lasts (q::Q)=lst q.1 q.2::lasts Q:=rfl
theorem q6m(Q:List (Nat×List Nat)):(heads Q).length=Q.length:=List.length_map _
theorem q3p(Q:List (Nat×List Nat)):(lasts Q).length=Q.length:=List.length_map _
theorem q7x{Q R:List (Nat×List Nat)}(h:Q.Perm R):(heads Q).Perm (heads R):=h.map _
theorem q7w{Q R:List (Nat×List Nat)}(h:Q.Perm R):(lasts Q).Perm (lasts R):=h.map _
theorem z78{Q:List (Nat×List Nat)}{i:Nat}:i∈heads Q↔∃ d∈Q,d.1=i:=List.mem_map
theorem q6c{Q:List (Nat×List Nat)}{i:Nat}:i∈lasts Q↔∃ d∈Q,lst d.1 d.2=i:=List.mem_map
theorem q9h:∀ (n:Nat) (Q:List (Nat×List Nat)),Q.length=n→(∀ q∈Q,pa E A q.1 q.2)→(∀ x,cA A (heads Q) x≤cA E (lasts Q) x) →
  ∃ L:List (Nat×List Nat),(∀ c∈L,Cy E A c)∧(flat L).Perm (flat Q)
 |0,Q,hn,_,_=>⟨[],(fun c hc=>by cases hc),by rw[List.length_eq_zero_iff.1 hn]⟩
 |n+1,Q,hn,hp,hx=>by
  have hne:Q≠[]:=fun e=>by rw[e] at hn;cases hn
  obtain⟨q,hq,hqm⟩:=z3u (fun c=>A c.1) Q hne
  obtain⟨p,hpQ,hpm⟩:=z3u (fun c=>E (lst c.1 c.2)) Q hne
  have hall:∀ x,A q.1≤x→∀ d∈Q,E (lst d.1 d.2)≤x:=fun x hqx=>by
   have h1:cA A (heads Q) x=(heads Q).length:=q60.2 fun i hi=>by
    obtain⟨d,hd,rfl⟩:=z78.1 hi
    have:=hqm d hd;omega
   have h2:=hx x
   rw[h1,q6m] at h2
   have h3:=cA_le (A:=E) (lasts Q) x
   rw[q3p] at h3
   have h4:cA E (lasts Q) x=(lasts Q).length:=by rw[q3p];omega
   intro d hd
   exact q60.1 h4 _ (q6c.2 ⟨d,hd,rfl⟩)
  have hpq:=hall _ (Int.le_refl _) p hpQ
  by_cases hpe:p=q
  ·subst hpe
   obtain⟨u,v,rfl⟩:=List.append_of_mem hpQ
   have hpm':List.Perm (u++p::v) (p::(u++v)):=List.perm_middle
   have hR:∀ d∈u++v,d∈u++p::v:=fun d hd=>hpm'.mem_iff.2 (List.mem_cons_of_mem _ hd)
   obtain⟨L,hL1,hL2⟩:=q9h n (u++v) (by have:=hpm'.length_eq;simp only[List.length_cons] at this;omega) (fun d hd=>hp d (hR d hd)) fun x=>by
    have e1:=hx x
    rw[q1n (q7x hpm'),q1n (A:=E) (q7w hpm'),q2f,q2d,g7,g7] at e1
    by_cases hxx:E (lst p.1 p.2)≤x
    ·have:cA E (lasts (u++v)) x=(lasts (u++v)).length:=q60.2 fun i hi=>by
      obtain⟨d,hd,rfl⟩:=q6c.1 hi
      have:=hpm d (hR d hd);omega
     rw[this]
     have:=cA_le (A:=A) (heads (u++v)) x
     rw[q6m] at this
     rw[q3p]
     exact this
    ·rw[if_neg hxx] at e1
     split at e1<;>omega
   refine⟨p::L,fun c hc=>?_,?_⟩
   ·rcases List.mem_cons.1 hc with rfl|hc
    ·exact(q0w _ _ _).2 ⟨hp _ hpQ,hpq⟩
    ·exact hL1 c hc
   ·exact(List.Perm.append_left (ps p) hL2).trans ((List.Perm.flatMap_right ps hpm').symm)
  ·obtain⟨u,v,rfl⟩:=List.append_of_mem hq
   have hqm':List.Perm (u++q::v) (q::(u++v)):=List.perm_middle
   have hp':p∈u++v:=(List.mem_cons.1 (hqm'.mem_iff.1 hpQ)).resolve_left hpe
   obtain⟨u',v',e⟩:=List.append_of_mem hp'
   have hm2:List.Perm (u++q::v) (q::p::(u'++v')):=hqm'.trans (List.Perm.cons q (by rw[e];exact List.perm_middle))
   have hR:∀ d∈u'++v',d∈u++q::v:=fun d hd=>hm2.mem_iff.2 (List.mem_cons_of_mem _ (List.mem_cons_of_mem _ hd))
   obtain⟨L,hL1,hL2⟩:=q9h n ((p.1,p.2++q.1::q.2)::(u'++v')) (by have:=hm2.length_eq;simp only[List.length_cons] at this ⊢;omega) (fun d hd=>by
     rcases List.mem_cons.1 hd with rfl|hd
     ·exact(q53 _ _ _ _).2 ⟨(q0w _ _ _).2 ⟨hp _ hpQ,hpq⟩,hp _ hq⟩
     ·exact hp d (hR d hd)) fun x=>by
    have e1:=hx x
    rw[q1n (q7x hm2),q1n (A:=E) (q7w hm2),q2f,q2f,q2d,q2d,g7,g7,g7,g7] at e1
    rw[q2f,q2d,g7,g7]
    dsimp only
    rw[q6e]
    by_cases hxx:E (lst p.1 p.2)≤x
    ·have:cA E (lasts (u'++v')) x=(lasts (u'++v')).length:=q60.2 fun i hi=>by
      obtain⟨d,hd,rfl⟩:=q6c.1 hi
      have:=hpm d (hR d hd);omega
     rw[this]
     have h2:=cA_le (A:=A) (heads (u'++v')) x
     have h3:=hpm q hq
     rw[q6m] at h2
     rw[q3p]
     rw[if_pos (by omega:E (lst q.1 q.2)≤x)]
     by_cases hpx:A p.1≤x
     ·rw[if_pos hpx];omega
     ·rw[if_neg hpx];omega
    ·have hqx:¬ A q.1≤x:=fun h=>hxx (hall x h p hpQ)
     rw[if_neg hxx,if_neg hqx] at e1
     omega
   refine⟨L,hL1,hL2.trans ?_⟩
   refine List.Perm.trans ?_ ((List.Perm.flatMap_right ps hm2).symm)
   show(p.1::(p.2++q.1::q.2)++flat (u'++v')).Perm (ps q++(ps p++flat (u'++v')))
   rw[← List.append_assoc]
   refine List.Perm.append_right _ ?_
   show((p.1::p.2)++(q.1::q.2)).Perm (ps q++ps p)
   exact List.perm_append_comm
theorem cover{l:List Nat}(hx:∀ x,cA A l x≤cA E l x):∃ L:List (Nat×List Nat),(∀ c∈L,Cy E A c)∧(flat L).Perm l:=by
 obtain⟨L,h1,h2⟩:=q9h (E:=E) (A:=A) l.length (l.map fun i=>(i,[])) (by simp) (fun q hq=>by obtain⟨i,_,rfl⟩:=List.mem_map.1 hq;trivial) fun x=>by
  have e1:heads (l.map fun i=>(i,([]:List Nat)))=l:=by unfold heads;rw[List.map_map];exact List.map_id'' (fun _=>rfl) l
  have e2:lasts (l.map fun i=>(i,([]:List Nat)))=l:=by unfold lasts;rw[List.map_map];exact List.map_id'' (fun _=>rfl) l
  rw[e1,e2];exact hx x
 refine⟨L,h1,h2.trans ?_⟩
 have:flat (l.map fun i=>(i,([]:List Nat)))=l:=by
  unfold flat
  rw[List.flatMap_map]
  exact List.flatMap_singleton' l
 rw[this]
theorem z4q(x:Int):∀ (t:List Nat) (h y:Nat),cA A (t++[y]) x<cA E (h::t) x→∃ u j v,t++[y]=u++j::v∧E (lst h u)≤x∧x<A j
 |[],h,y,hc=>by
  rw[List.nil_append,g7,g7] at hc
  have e1:cA A [] x=0:=rfl
  have e2:cA E [] x=0:=rfl
  rw[e1,e2] at hc
  refine⟨[],y,[],rfl,?_,?_⟩
  ·show E h≤x
   by_cases c:E h≤x
   ·exact c
   ·rw[if_neg c] at hc;omega
  ·by_cases c:A y≤x
   ·rw[if_pos c] at hc;split at hc<;>omega
   ·omega
 |z::t,h,y,hc=>by
  rw[List.cons_append,g7,g7] at hc
  by_cases c:E h≤x∧x<A z
  ·exact⟨[],z,t++[y],rfl,c.1,c.2⟩
  ·have hc':cA A (t++[y]) x<cA E (z::t) x:=by
    by_cases c1:E h≤x
    ·have c2:A z≤x:=by omega
     rw[if_pos c1,if_pos c2] at hc;omega
    ·rw[if_neg c1] at hc;omega
   obtain⟨u,j,v,e,a,b⟩:=z4q x t z y hc'
   exact⟨z::u,j,v,by rw[List.cons_append,e];rfl,a,b⟩
theorem z4r(x:Int):∀ (t:List Nat) (h y:Nat),pa E A h (t++[y])→cA A (t++[y]) x≤cA E (h::t) x∧(cA A (t++[y]) x=cA E (h::t) x→∀ u j v,t++[y]=u++j::v→E (lst h u)≤x→A j≤x)
 |[],h,y,hp=>by
  rw[List.nil_append,g7,g7]
  have e1:cA A [] x=0:=rfl
  have e2:cA E [] x=0:=rfl
  rw[e1,e2]
  have hp':E h≤A y:=hp.1
  constructor
  ·by_cases c:A y≤x
   ·rw[if_pos c,if_pos (by omega:E h≤x)];exact Nat.le_refl _
   ·rw[if_neg c];omega
  ·intro he u j v e hx
   cases u with
   |nil=>
    have:y=j:=by simpa using(List.cons.inj e).1
    subst this
    have hx':E h≤x:=hx
    rw[if_pos hx'] at he
    by_cases c:A y≤x
    ·exact c
    ·rw[if_neg c] at he;omega
   |cons w u=>have:=congrArg List.length e;simp at this
 |z::t,h,y,hp=>by
  rw[List.cons_append] at hp ⊢
  obtain⟨p1,p2⟩:=hp
  obtain⟨q1,q2⟩:=z4r x t z y p2
  rw[g7,g7 (A:=E) h]
  constructor
  ·by_cases c:A z≤x
   ·rw[if_pos c,if_pos (by omega:E h≤x)];omega
   ·rw[if_neg c];omega
  ·intro he u j v e hx
   have hcase:(A z≤x↔E h≤x)∧cA A (t++[y]) x=cA E (z::t) x:=by
    by_cases c:A z≤x
    ·have c2:E h≤x:=by omega
     rw[if_pos c,if_pos c2] at he
     exact⟨⟨fun _=>c2,fun _=>c⟩,by omega⟩
    ·rw[if_neg c] at he
     by_cases c2:E h≤x
     ·rw[if_pos c2] at he;omega
     ·rw[if_neg c2] at he
      exact⟨⟨fun h=>absurd h c,fun h=>absurd h c2⟩,by omega⟩
   cases u with
   |nil=>
    have:z=j:=(List.cons.inj e).1
    subst this
    exact hcase.1.2 hx
   |cons w u=>
    obtain⟨rfl,e'⟩:=List.cons.inj e
    exact q2 hcase.2 u j v e' hx
end Ox.Se
namespace Ox.Se
open Ox
variable {E A:Nat→Int}
theorem q5b(c:Nat×List Nat)(L:List (Nat×List Nat))(x:Int):cA A (flat (c::L)) x=cA A (ps c) x+cA A (flat L) x:=by
 show cA A (ps c++flat L) x=_
 exact cA_app _ _ _
theorem cA_rot(c:Nat×List Nat)(x:Int):cA A (c.2++[c.1]) x=cA A (ps c) x:=q1n (List.perm_append_singleton _ _) x
theorem z3j{x:Int}:∀ {L:List (Nat×List Nat)},cA A (flat L) x<cA E (flat L) x→∃ c∈L,∃ i j,arc c i j∧E i≤x∧x<A j
 |[],h=>absurd h (by simp[cA])
 |c::L,h=>by
  rw[q5b,q5b (A:=E)] at h
  by_cases hc:cA A (ps c) x<cA E (ps c) x
  ·obtain⟨u,j,v,e,a,b⟩:=z4q (E:=E) (A:=A) x c.2 c.1 c.1 (by rw[cA_rot];exact hc)
   exact⟨c,List.mem_cons_self,_,j,⟨u,v,e,rfl⟩,a,b⟩
  ·obtain⟨d,hd,r⟩:=z3j (L:=L) (x:=x) (by omega)
   exact⟨d,List.mem_cons_of_mem _ hd,r⟩
def touch(E A:Nat→Int)(l:List Nat)(i k:Nat):Prop:=∃ x y,(x=A i∨x=E i)∧(y=A k∨y=E k)∧∀ z,Min.min x y≤z→z<Max.max x y→cA A l z<cA E l z
theorem z3t{l:List Nat}(hn:l.Nodup)(hc:∀ S:Nat→Prop,(∃ i∈l,S i)→(∃ k∈l,¬ S k)→∃ i∈l,∃ k∈l,S i∧¬ S k∧touch E A l i k) :
  ∀ (n:Nat) (L:List (Nat×List Nat)),L.length=n+1→(∀ c∈L,Cy E A c)→(flat L).Perm l→∃ c,Cy E A c∧(ps c).Perm l
 |0,[c],_,hy,hp=>⟨c,hy c (List.mem_singleton.2 rfl),by simpa[flat] using hp⟩
 |n+1,c::L,hlen,hy,hp=>by
  by_cases hm:∃ d∈L,∃ i p k q,arc c i p∧arc d k q∧E i≤A q∧E k≤A p
  ·obtain⟨d,hd,i,p,k,q,h1,h2,e1,e2⟩:=hm
   obtain⟨u,v,rfl⟩:=List.append_of_mem hd
   obtain⟨b,hb,hbp⟩:=join (hy c List.mem_cons_self) (hy d (List.mem_cons_of_mem _ hd)) h1 h2 e1 e2
   refine z3t hn hc n (b::(u++v)) (by simp only[List.length_cons,List.length_append] at hlen ⊢;omega) (fun x hx=>?_) ?_
   ·rcases List.mem_cons.1 hx with rfl|hx
    ·exact hb
    ·exact hy x (List.mem_cons_of_mem _ (by rcases List.mem_append.1 hx with h|h<;>simp[h]))
   ·refine List.Perm.trans ?_ hp
    show(ps b++flat (u++v)).Perm (ps c++flat (u++d::v))
    have e:(flat (u++d::v)).Perm (ps d++flat (u++v)):=List.Perm.flatMap_right ps List.perm_middle
    refine(hbp.append_right _).trans ?_
    rw[List.append_assoc]
    exact List.Perm.append_left _ e.symm
  ·exfalso
   have hnov:∀ d∈L,∀ i p k q,arc c i p→arc d k q→E i≤A q→E k≤A p→False:=fun d hd i p k q h1 h2 e1 e2=>hm ⟨d,hd,i,p,k,q,h1,h2,e1,e2⟩
   have hmem:∀ i,i∈l↔i∈ps c∨∃ d∈L,i∈ps d:=fun i=>by
    rw[← hp.mem_iff]
    show i∈ps c++flat L↔_
    rw[List.mem_append,List.mem_flatMap]
   have hnd:(ps c++flat L).Nodup:=hp.nodup_iff.2 hn
   have hdis:∀ i,i∈ps c→∀ d∈L,i∉ps d:=fun i hi d hd h=>by
    have:=(List.nodup_append.1 hnd).2.2 i hi i (List.mem_flatMap.2 ⟨d,hd,h⟩)
    exact this rfl
   obtain⟨d0,L0,rfl⟩:∃ d0 L0,L=d0::L0:=by
    cases L with
    |nil=>simp at hlen
    |cons d0 L0=>exact⟨d0,L0,rfl⟩
   obtain⟨i,hi,k,hk,si,sk,x,y,hx,hy2,hz⟩:=hc (fun i=>i∈ps c) ⟨c.1,(hmem _).2 (Or.inl List.mem_cons_self),List.mem_cons_self⟩
    ⟨d0.1,(hmem _).2 (Or.inr ⟨d0,List.mem_cons_self,List.mem_cons_self⟩),fun h=>hdis _ h d0 List.mem_cons_self List.mem_cons_self⟩
   obtain⟨d,hd,hkd⟩:=((hmem k).1 hk).resolve_left sk
   let inC:Int→Prop:=fun z=>∃ a b,arc c a b∧E a≤z∧z≤A b
   have hcx:inC x:=by
    rcases hx with rfl|rfl
    ·obtain⟨a,ha⟩:=arc_to si
     exact⟨a,i,ha,z06 (hy c List.mem_cons_self) ha,Int.le_refl _⟩
    ·obtain⟨b,hb⟩:=z4s si
     exact⟨i,b,hb,Int.le_refl _,z06 (hy c List.mem_cons_self) hb⟩
   have hdy:∃ a b,arc d a b∧E a≤y∧y≤A b:=by
    rcases hy2 with rfl|rfl
    ·obtain⟨a,ha⟩:=arc_to hkd
     exact⟨a,k,ha,z06 (hy d (List.mem_cons_of_mem _ hd)) ha,Int.le_refl _⟩
    ·obtain⟨b,hb⟩:=z4s hkd
     exact⟨k,b,hb,Int.le_refl _,z06 (hy d (List.mem_cons_of_mem _ hd)) hb⟩
   have hstep:∀ z,Min.min x y≤z→z<Max.max x y→(inC z↔inC (z+1)):=fun z h1 h2=>by
    have h3:=hz z h1 h2
    rw[← q1n hp,← q1n (A:=E) hp] at h3
    obtain⟨e,he,a,b,hab,p1,p2⟩:=z3j h3
    rcases List.mem_cons.1 he with rfl|he
    ·exact⟨fun _=>⟨a,b,hab,by omega,by omega⟩,fun _=>⟨a,b,hab,by omega,by omega⟩⟩
    ·constructor
     ·rintro⟨a',b',h',q1,q2⟩
      exact absurd (hnov e he a' b' a b h' hab (by omega) (by omega)) id
     ·rintro⟨a',b',h',q1,q2⟩
      exact absurd (hnov e he a' b' a b h' hab (by omega) (by omega)) id
   have hrun:∀ m:Nat,Min.min x y+m≤Max.max x y→(inC (Min.min x y)↔inC (Min.min x y+m)):=by
    intro m
    induction m with
    |zero=>intro _;simp
    |succ m ih=>
     intro h
     have h1:=ih (by push_cast at h;omega)
     have h2:=hstep (Min.min x y+m) (by omega) (by push_cast at h;omega)
     rw[h1,h2]
     have:Min.min x y+(m:Int)+1=Min.min x y+((m+1:Nat):Int):=by push_cast;omega
     rw[this]
   have hend:=hrun (Max.max x y-Min.min x y).toNat (by omega)
   have hcy:inC y:=by
    rcases Int.le_total x y with h|h
    ·have e1:Min.min x y=x:=Int.min_eq_left h
     have e2:Min.min x y+((Max.max x y-Min.min x y).toNat:Int)=y:=by omega
     rw[e2,e1] at hend
     exact hend.1 hcx
    ·have e1:Min.min x y=y:=Int.min_eq_right h
     have e2:Min.min x y+((Max.max x y-Min.min x y).toNat:Int)=x:=by omega
     rw[e2,e1] at hend
     exact hend.2 hcx
   obtain⟨a,b,hab,p1,p2⟩:=hcy
   obtain⟨a',b',hab',q1,q2⟩:=hdy
   exact hnov d hd a b a' b' hab hab' (by omega) (by omega)
theorem z7t{l:List Nat}(hne:l≠[])(hn:l.Nodup)(hx:∀ x,cA A l x≤cA E l x)
  (hc:∀ S:Nat→Prop,(∃ i∈l,S i)→(∃ k∈l,¬ S k)→∃ i∈l,∃ k∈l,S i∧¬ S k∧touch E A l i k):∃ c,Cy E A c∧(ps c).Perm l:=by
 obtain⟨L,h1,h2⟩:=cover hx
 cases L with
 |nil=>exact absurd (h2.symm.eq_nil) hne
 |cons c L=>exact z3t hn hc L.length (c::L) rfl h1 h2
theorem row_ex:∀ (n:Nat) (L:List (Nat×List Nat)),L.length=n+1→(∀ c∈L,Cy E A c)→∃ c:Nat×List Nat,(ps c).Perm (flat L)∧pa E A c.1 c.2∧∃ d∈L,E (lst c.1 c.2)≤A d.1
 |0,[c],_,hy=>by
  have h:=hy c (List.mem_singleton.2 rfl)
  unfold Cy at h
  rw[q0w] at h
  exact⟨c,by simp[flat],h.1,c,List.mem_singleton.2 rfl,h.2⟩
 |n+1,L,hlen,hy=>by
  obtain⟨c,hcm,hmax⟩:=z3u (fun c=>A c.1) L (fun e=>by rw[e] at hlen;cases hlen)
  obtain⟨u,v,rfl⟩:=List.append_of_mem hcm
  have hpm:List.Perm (u++c::v) (c::(u++v)):=List.perm_middle
  have hR:∀ d∈u++v,d∈u++c::v:=fun d hd=>hpm.mem_iff.2 (List.mem_cons_of_mem _ hd)
  obtain⟨b,b1,b2,d,hd,b3⟩:=row_ex n (u++v) (by have:=hpm.length_eq;simp only[List.length_cons] at this;omega) fun d hd=>hy d (hR d hd)
  have hcy:=hy c hcm
  unfold Cy at hcy
  rw[q0w] at hcy
  have hdm:=hmax d (hR d hd)
  have hbc:E (lst b.1 b.2)≤A c.1:=by omega
  refine⟨(b.1,b.2++c.1::c.2),?_,(q53 _ _ _ _).2 ⟨(q0w _ _ _).2 ⟨b2,hbc⟩,hcy.1⟩,c,hcm,?_⟩
  ·refine List.Perm.trans ?_ (List.Perm.flatMap_right ps hpm).symm
   show((b.1::b.2)++(c.1::c.2)).Perm (ps c++flat (u++v))
   exact List.perm_append_comm.trans (List.Perm.append_left _ b1)
  ·dsimp only
   rw[q6e]
   exact hcy.2
theorem one_row{l:List Nat}(hne:l≠[])(hx:∀ x,cA A l x≤cA E l x):∃ c:Nat×List Nat,(ps c).Perm l∧pa E A c.1 c.2:=by
 obtain⟨L,h1,h2⟩:=cover hx
 cases L with
 |nil=>exact absurd (h2.symm.eq_nil) hne
 |cons c L=>
  obtain⟨d,d1,d2,_⟩:=row_ex L.length (c::L) rfl h1
  exact⟨d,d1.trans h2,d2⟩
theorem z2t{c:Nat×List Nat}(hc:Cy E A c){S:Nat→Prop}(h1:∃ i∈ps c,S i)(h2:∃ k∈ps c,¬ S k):∃ i k,arc c i k∧S i∧¬ S k:=by
 obtain⟨i,hi,si⟩:=h1
 obtain⟨k,hk,sk⟩:=h2
 refine Classical.byContradiction fun hno=>?_
 have hstep:∀ a b,arc c a b→S a→S b:=fun a b hab ha=>Classical.byContradiction fun hb=>hno ⟨a,b,hab,ha,hb⟩
 have key:∀ (t:List Nat) (g:Nat),(∀ u j v,t=u++j::v→S (lst g u)→S j)→S g→∀ x∈t,S x:=by
  intro t
  induction t with
  |nil=>intro g _ _ x hx;cases hx
  |cons y t ih=>
   intro g hst hg x hx
   have hy:S y:=hst [] y t rfl hg
   rcases List.mem_cons.1 hx with rfl|hx
   ·exact hy
   ·exact ih y (fun u j v e h=>hst (y::u) j v (by rw[e];rfl) h) hy x hx
 have hall:S c.1→∀ x∈ps c,S x:=fun h x hx=>key (c.2++[c.1]) c.1 (fun u j v e h=>hstep _ _ ⟨u,v,e,rfl⟩ h) h x (by rcases List.mem_cons.1 hx with h|h<;>simp[h])
 have hc1:S c.1:=by
  rcases List.mem_cons.1 hi with rfl|hi
  ·exact si
  ·obtain⟨u,v,e⟩:=List.append_of_mem hi
   refine key (v++[c.1]) i (fun u' j v' e' h=>hstep _ _ ⟨u++i::u',v',by rw[e,List.append_assoc,List.cons_append,e'];simp,by rw[q6e]⟩ h) si c.1 (by simp)
 exact sk (hall hc1 k hk)
end Ox.Se
