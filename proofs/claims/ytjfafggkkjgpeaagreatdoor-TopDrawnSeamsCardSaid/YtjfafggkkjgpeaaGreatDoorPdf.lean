/- Texts of the proof of the statement that the last text proves. -/
import Derived.Test.YtjfafggkkjgpeaaGreatDoorPde
set_option linter.all false
set_option maxHeartbeats 2000000
namespace Ox
open Go Go.RowKit
variable {X:Ctx}{s:S}{M:Mem}{ρ:Env}{a:Act}{w w':World}{QA:Exit→S→Prop}{all l:List Oper}{P:Program}
variable {L:List (Nat×AV)}{H:List (Nat×HO)}{nx d n:Nat}{rr:List Fr}{c1 c2:List Prop}{ty ty2:TypeId}{ps ps2:String}{af af2:Array Edge}{md:Bool}
end Ox
namespace Ox
open Go Go.RowKit
variable {X:Ctx}{s:S}{M:Mem}{ρ:Env}{a:Act}{w w':World}{QA:Exit→S→Prop}{all l:List Oper}{P:Program}
variable {L:List (Nat×AV)}{H:List (Nat×HO)}{nx d m:Nat}{rr:List Fr}{c1 c2:List Prop}{ty ty2:TypeId}{ps ps2:String}{af af2:Array Edge}{md:Bool}
section
variable {x:Operand}{t:TypeId}{xs:List Int}{eid:TypeId}{e:Ty}
end
section
variable {kt vt:Ty}{t kid vid:TypeId}{es:List (Ent kt vt)}{clk n:Nat}{x:kt.den}{om ok ov:Operand}{c3:List Prop}{o:Oper}
end
end Ox
namespace Go.Proofs.YtjfafggkkjgpeaaGreatDoor
open Go Go.RowKit Ox
variable {E:World}{M0:Mem}{n:Nat}{rd:Option Nat}{up:Nat→Nat→Value}{dp:Nat}{QA:Exit→S→Prop}{st st' r:List Fr}{s s':S}{cs:List Prop}{md:Bool}{all l:List Oper}{d:Nat}{op:Op}{ty:TypeId}{ps:String}{af:Array Edge}{g:Bool}{gg:Nat×Bool}{v:AV}
 {f:FuncId} {args:AV} {L:List (Nat×AV)} {H:List (Nat×HO)} {nx:Nat} {kt vt:Ty} {t kid vid:TypeId} {es:List (Ent kt vt)} {clk m:Nat} {x y:kt.den} {c1 c2 c3:List Prop} {om ok ov:Operand}
theorem zs(h:stepC tys ets n false st s=some (cs,st',s'))(k:JK ⟨Tryz.prog,tys,ets,mts,E,M0,n,rd,up,dp⟩ st' QA s')(hc:allP cs:=by(first|exact trivial|(try dsimp only[allP,inK,idxC,loC,lohiC,fullC,underG,List.append,List.nil_append,List.cons_append,Ty.den,Ty.dflt,Int.toNat_natCast,List.length_cons,List.length_nil] at *);first|omega|((repeat' (first|exact trivial|assumption|refine And.intro ?_ ?_|exact fun h=>h|(intro hpk;first|exact hpk|simp only[wantB,hpk,Bool.not_false,Bool.not_true])))<;>omega)|fail)):JK ⟨Tryz.prog,tys,ets,mts,E,M0,n,rd,up,dp⟩ st QA s:=z8g xk h k hc
theorem zu(h:stepC tys ets n true st s=some (cs,st',s'))(k:JK ⟨Tryz.prog,tys,ets,mts,E,M0,n,rd,up,dp⟩ st' QA s')(hc:allP cs:=by(first|exact trivial|(try dsimp only[allP,inK,idxC,loC,lohiC,fullC,underG,List.append,List.nil_append,List.cons_append,Ty.den,Ty.dflt,Int.toNat_natCast,List.length_cons,List.length_nil] at *);first|omega|((repeat' (first|exact trivial|assumption|refine And.intro ?_ ?_|exact fun h=>h|(intro hpk;first|exact hpk|simp only[wantB,hpk,Bool.not_false,Bool.not_true])))<;>omega)|fail)):JK ⟨Tryz.prog,tys,ets,mts,E,M0,n,rd,up,dp⟩ st QA s:=z8g xk h k hc
theorem zg(hg:gOf all L (some gg)=some g)(h:evb tys op ⟨L,H,nx⟩=some (cs,v))(hd:ltB d n=true)(k:JK ⟨Tryz.prog,tys,ets,mts,E,M0,n,rd,up,dp⟩ (.ops md all l::r) QA ⟨(d,.gd g v)::L,H,nx⟩)
  (hc:g=true→allP cs:=by(first|(exact fun _=>trivial)|(exact fun hgd=>hgd)|(intro hgd;first|exact trivial|exact hgd|(have hge:=hgd;(try simp only[wantB,Bool.not_not,Bool.not_eq_true',decide_eq_true_eq,decide_eq_false_iff_not,beq_iff_eq,bne_iff_ne,bne_eq_false_iff_eq,ne_eq,beq_eq_false_iff_ne] at hge);(try dsimp only[allP,inK,idxC,loC,lohiC,fullC,underG,List.append,List.nil_append,List.cons_append,Ty.den,Ty.dflt,Int.toNat_natCast,List.length_cons,List.length_nil] at *);first|omega|((repeat' (first|exact hgd|exact trivial|refine And.intro ?_ ?_))<;>omega)|((repeat' (first|exact trivial|assumption|refine And.intro ?_ ?_|exact fun h=>h|(intro hpk;first|exact hpk|simp only[wantB,hpk,Bool.not_false,Bool.not_true])))<;>omega)|fail))|(exact fun hgd=>And.intro hgd (fun hpk=>Bool.and_eq_true_iff.2 ⟨hgd,by rw[hpk];rfl⟩))|(intro hgd;have hge:=hgd;simp only[wantB,Bool.and_eq_true,Bool.or_eq_true,Bool.not_not,Bool.not_eq_true',decide_eq_true_eq,decide_eq_false_iff_not,beq_iff_eq,bne_iff_ne,bne_eq_false_iff_eq,ne_eq,beq_eq_false_iff_ne] at hge;(try dsimp only[allP,inK,idxC,loC,lohiC,fullC,underG,List.append,List.nil_append,List.cons_append,Ty.den,Ty.dflt,Int.toNat_natCast,List.length_cons,List.length_nil] at *);first|omega|((repeat' (first|exact trivial|assumption|refine And.intro ?_ ?_))<;>omega)))) :
  JK ⟨Tryz.prog,tys,ets,mts,E,M0,n,rd,up,dp⟩ (.ops md all (⟨some d,op,ty,ps,af,some gg⟩::l)::r) QA ⟨L,H,nx⟩:=JK.gd xk hg h hd k hc
theorem zd{id:Nat}{ops:List Oper}(k:JK ⟨Tryz.prog,tys,ets,mts,E,M0,n,rd,up,dp⟩ (.ops false ops ops::r) QA s)(hB:(Region.lexB .any ops.toArray&&ndAll ops)=true:=by decide +kernel):JK ⟨Tryz.prog,tys,ets,mts,E,M0,n,rd,up,dp⟩ (.code (.region id ⟨ops⟩ true)::r) QA s:=JK.draw xk k hB
theorem zc(h:callA tys op ⟨L,H,nx⟩=some (cs,f,args))(hf:Ox.Fn Tryz.prog f args (·=v))(hr:v.scal=true)(hd:ltB d n=true)(k:JK ⟨Tryz.prog,tys,ets,mts,E,M0,n,rd,up,dp⟩ (.ops md all l::r) QA ⟨(d,v)::L,H,nx⟩)(hc:allP cs:=by(first|exact trivial|(try dsimp only[allP,inK,idxC,loC,lohiC,fullC,underG,List.append,List.nil_append,List.cons_append,Ty.den,Ty.dflt,Int.toNat_natCast,List.length_cons,List.length_nil] at *);first|omega|((repeat' (first|exact trivial|assumption|refine And.intro ?_ ?_|exact fun h=>h|(intro hpk;first|exact hpk|simp only[wantB,hpk,Bool.not_false,Bool.not_true])))<;>omega)|fail)) :
  JK ⟨Tryz.prog,tys,ets,mts,E,M0,n,rd,up,dp⟩ (.ops md all (⟨some d,op,ty,ps,af,none⟩::l)::r) QA ⟨L,H,nx⟩:=JK.sc h hf hr hd k hc
theorem zk(hg:gOf all L (some gg)=some g)(h:callA tys op ⟨L,H,nx⟩=some (cs,f,args))(hf:g=true→Ox.Fn Tryz.prog f args (·=v))(hr:v.scal=true)(hd:ltB d n=true)(k:JK ⟨Tryz.prog,tys,ets,mts,E,M0,n,rd,up,dp⟩ (.ops md all l::r) QA ⟨(d,.gd g v)::L,H,nx⟩)
  (hc:g=true→allP cs:=by(first|(exact fun _=>trivial)|(exact fun hgd=>hgd)|(intro hgd;first|exact trivial|exact hgd|(have hge:=hgd;(try simp only[wantB,Bool.not_not,Bool.not_eq_true',decide_eq_true_eq,decide_eq_false_iff_not,beq_iff_eq,bne_iff_ne,bne_eq_false_iff_eq,ne_eq,beq_eq_false_iff_ne] at hge);(try dsimp only[allP,inK,idxC,loC,lohiC,fullC,underG,List.append,List.nil_append,List.cons_append,Ty.den,Ty.dflt,Int.toNat_natCast,List.length_cons,List.length_nil] at *);first|omega|((repeat' (first|exact hgd|exact trivial|refine And.intro ?_ ?_))<;>omega)|((repeat' (first|exact trivial|assumption|refine And.intro ?_ ?_|exact fun h=>h|(intro hpk;first|exact hpk|simp only[wantB,hpk,Bool.not_false,Bool.not_true])))<;>omega)|fail))|(intro hgd;have hge:=hgd;simp only[wantB,Bool.and_eq_true,Bool.or_eq_true,Bool.not_not,Bool.not_eq_true',decide_eq_true_eq,decide_eq_false_iff_not,beq_iff_eq,bne_iff_ne,bne_eq_false_iff_eq,ne_eq,beq_eq_false_iff_ne] at hge;(try dsimp only[allP,inK,idxC,loC,lohiC,fullC,underG,List.append,List.nil_append,List.cons_append,Ty.den,Ty.dflt,Int.toNat_natCast,List.length_cons,List.length_nil] at *);first|omega|((repeat' (first|exact trivial|assumption|refine And.intro ?_ ?_))<;>omega)))):JK ⟨Tryz.prog,tys,ets,mts,E,M0,n,rd,up,dp⟩ (.ops md all (⟨some d,op,ty,ps,af,some gg⟩::l)::r) QA ⟨L,H,nx⟩:=JK.scg hg h hf hr hd k hc
theorem ze(h:callA tys op ⟨L,[],nx⟩=some (cs,f,args))(hf:Ox.Fn Tryz.prog f args (·=v))(hd:ltB d n=true)(k:JK ⟨Tryz.prog,tys,ets,mts,E,M0,n,rd,up,dp⟩ (.ops true all l::r) QA ⟨(d,v)::L,H,nx⟩)(hc:allP cs:=by(first|exact trivial|(try dsimp only[allP,inK,idxC,loC,lohiC,fullC,underG,List.append,List.nil_append,List.cons_append,Ty.den,Ty.dflt,Int.toNat_natCast,List.length_cons,List.length_nil] at *);first|omega|((repeat' (first|exact trivial|assumption|refine And.intro ?_ ?_|exact fun h=>h|(intro hpk;first|exact hpk|simp only[wantB,hpk,Bool.not_false,Bool.not_true])))<;>omega)|fail)) :
  JK ⟨Tryz.prog,tys,ets,mts,E,M0,n,rd,up,dp⟩ (.ops true all (⟨some d,op,ty,ps,af,none⟩::l)::r) QA ⟨L,H,nx⟩:=JK.ce h hf hd k hc
theorem zt(hg:gOf all L (some gg)=some g)(hgt:g=true){dd:Option Nat}(k:JK ⟨Tryz.prog,tys,ets,mts,E,M0,n,rd,up,dp⟩ (.ops true all (⟨dd,op,ty,ps,af,none⟩::l)::r) QA ⟨L,H,nx⟩):JK ⟨Tryz.prog,tys,ets,mts,E,M0,n,rd,up,dp⟩ (.ops true all (⟨dd,op,ty,ps,af,some gg⟩::l)::r) QA ⟨L,H,nx⟩:=JK.gT hg hgt k
theorem zfl(hg:gOf all L (some gg)=some g)(hgf:g=false)(hd:ltB d n=true)(k:JK ⟨Tryz.prog,tys,ets,mts,E,M0,n,rd,up,dp⟩ (.ops true all l::r) QA ⟨(d,.undef)::L,H,nx⟩):JK ⟨Tryz.prog,tys,ets,mts,E,M0,n,rd,up,dp⟩ (.ops true all (⟨some d,op,ty,ps,af,some gg⟩::l)::r) QA ⟨L,H,nx⟩:=JK.gF hg hgf hd k
theorem znf(k:JK ⟨Tryz.prog,tys,ets,mts,E,M0,n,rd,up,dp⟩ (.ops true all l::r) QA ⟨del L d,H,nx⟩):JK ⟨Tryz.prog,tys,ets,mts,E,M0,n,rd,up,dp⟩ (.ops true all (⟨some d,.assign (.const .nilFunc),ty,ps,af,none⟩::l)::r) QA ⟨L,H,nx⟩:=JK.nilF k
theorem zne(hK:EqT Tryz.prog kt t)(hu:opd L om=some (c1,.val kt x))(hv:opd L ok=some (c2,.val kt y))(hd:ltB d n=true){tt:TypeId}
  (k:JK ⟨Tryz.prog,tys,ets,mts,E,M0,n,rd,up,dp⟩ (.ops md all l::r) QA ⟨(d,.val .bool (!kt.eqB x y))::L,H,nx⟩) (hc:allP (c1++c2):=by(first|exact trivial|(try dsimp only[allP,inK,idxC,loC,lohiC,fullC,underG,List.append,List.nil_append,List.cons_append,Ty.den,Ty.dflt,Int.toNat_natCast,List.length_cons,List.length_nil] at *);first|omega|((repeat' (first|exact trivial|assumption|refine And.intro ?_ ?_|exact fun h=>h|(intro hpk;first|exact hpk|simp only[wantB,hpk,Bool.not_false,Bool.not_true])))<;>omega)|fail)):JK ⟨Tryz.prog,tys,ets,mts,E,M0,n,rd,up,dp⟩ (.ops md all (⟨some d,.binOp .neq t om ok tt,ty,ps,af,none⟩::l)::r) QA ⟨L,H,nx⟩:=JL.neQ (X:=⟨Tryz.prog,tys,ets,mts,E,M0,n,rd,up,dp⟩)  hK.key hK.ag hK.gt hu hv hd hc k
end Go.Proofs.YtjfafggkkjgpeaaGreatDoor
namespace Ox
open Go Go.RowKit
variable {X:Ctx}{s:S}{M:Mem}{ρ:Env}{a:Act}{w w':World}{QA:Exit→S→Prop}{all l:List Oper}{o:Oper}
end Ox
namespace Ox
open Go Go.RowKit
variable {X:Ctx}{s:S}{M:Mem}{ρ:Env}{a:Act}{w w':World}{QA:Exit→S→Prop}{all l:List Oper}{md:Bool}
variable {L:List (Nat×AV)}{H:List (Nat×HO)}{nx m lo hi:Nat}{t:TypeId}{e:Ty}{eid:TypeId}{xs:List e.den}{c1:List Prop}{x:Operand}{ty:TypeId}{ps:String}{af:Array Edge}{f:Bool}
theorem z8a{d:Nat}{L':List (Nat×AV)}{H':List (Nat×HO)}(hd:lk L d=some (.lf (.ovw m 0 hi false)))(hl:lk H m=some (.sl eid e xs))(hhi:hi≤xs.length)(hL:∀ d v,lk L' d=some v→lk L d=some v)(hH:subH H H')(hm:lk H' m=none) :
  JW X ⟨(d,.lf (.osl nx))::L',(nx,.sl eid e (xs.take hi))::H',nx+1⟩ ⟨L,H,nx⟩:=by
 intro M ρ a w h1 h2
 have hok:=n3 h1 hl
 simp only[HO.ok] at hok
 obtain⟨hty,cs0,hrow,hrl⟩:=hok
 have hdv:=(h2.reg d _ hd).2
 rw[y7] at hdv
 simp only[Leaf.at,Option.some.injEq] at hdv
 obtain⟨hdv,_⟩:=hdv
 have hlen:(xs.take hi).length=hi:=by simp;omega
 have key:∃ v,sview (ρ.sv m) (ρ.ty m).size 0 hi false=v∧w.ownsRow X.E.heap.size eid e.size v (xs.take hi).length (cs0.take (hi*e.size))∧(∀ b,v.ownBlock=some b→(ρ.sv m).ownBlock=some b):=by
  rcases hrow.2 with⟨e1,hn⟩|⟨g,cap,cur,hsv,hg1,hg2,hg3,hg4,hg5,hg6⟩
  ·have h0:hi=0:=by omega
   subst h0
   refine⟨.slice none 0 0,by rw[e1];rfl,⟨by simp,.inl ⟨rfl,by simp⟩⟩,fun b hb=>by simp[Value.ownBlock] at hb⟩
  ·refine⟨.slice (some ⟨g,0,none⟩) hi cap,?_,⟨?_,.inr ⟨g,cap,cur,by rw[hlen],hg1,hg2,by rw[hlen];omega,hg4,hg5,?_⟩⟩,fun b hb=>by rw[hsv];exact hb⟩
   ·rw[hsv]
    simp[sview,Addr.add]
   ·rw[hlen,List.length_take,hrl.1];exact Nat.min_eq_left (Nat.mul_le_mul_right _ hhi)
   ·rw[hlen,← hg6,List.take_take,Nat.min_eq_left (Nat.mul_le_mul_right _ hhi)]
 obtain⟨v,hv1,hv2,hv3⟩:=key
 have hrow1:∀ b,(ρ.sv m).ownBlock=some b→X.E.heap.size≤b∧M b=none:=h1.row hl
 have hs:SAT X M (ρ.with nx 0 e v) ⟨L,(nx,.sl eid e (xs.take hi))::H',nx+1⟩ w:=by
  refine SAT.newRow (s:=⟨L,H,nx⟩) h1 (row:=(ρ.sv m).ownBlock) (q0h w _) (fun b hb=>hrow1 b hb) (fun k o hk=>⟨hH k o hk,fun b hb heq=>?_⟩) hv2 (hrl.take hi) (fun b hb=>.inl (hv3 b hb))
  have:=h1.apart k m o _ b (hH k o hk) hl hb heq
  subst this
  rw[hm] at hk;cases hk
 refine⟨ρ.with nx 0 e v,hs.regs _,h2.size,h2.defers,fun d' v' hd'=>?_⟩
 simp only[lk] at hd'
 by_cases he:d=d'
 ·subst he
  rw[if_pos rfl] at hd';injection hd' with hd';subst hd'
  refine⟨Nat.lt_succ_self _,?_⟩
  rw[y7]
  refine⟨?_,?_⟩
  ·simp only[Leaf.at,Env.with,if_true];rw[← hdv,hv1]
  ·rw[← hdv,hv1]
   rcases hv2.2 with⟨e1,_⟩|⟨g,cap,cur,e1,_⟩<;>rw[e1]<;>rfl
 ·rw[if_neg he] at hd'
  obtain⟨f1,f2⟩:=h2.reg d' v' (hL d' v' hd')
  exact⟨k0 (Nat.le_succ _) f1,w6 (Mem.le_refl M) (w7 _ _ _ _ _) f1 f2⟩
end Ox
namespace Ox
open Go Go.RowKit
variable {X:Ctx}{s:S}{QA:Exit→S→Prop}
end Ox
namespace Go.Proofs.YtjfafggkkjgpeaaGreatDoor
open Go Go.RowKit Ox Ox.Sh Ox.Se
attribute [local irreducible] JC JL JK JW
abbrev vI(n:Int):AV:=.val (.int .i64) n
abbrev vB(b:Bool):AV:=.val .bool b
abbrev vL(xs:List Int):AV:=.val (.slice (.int .i64)) xs
abbrev vLL(xs:List (List Int)):AV:=.val (.slice (.slice (.int .i64))) xs
abbrev ptT:Ty:=.cons (.int .i64) (.cons (.int .i64) .nil)
abbrev vP(z:Pt):AV:=.val ptT z
abbrev vD(l:List Pt):AV:=.val (.slice ptT) l
abbrev seT:Ty:=.cons (.int .i64) (.cons (.slice ptT) .nil)
abbrev mkS(P:Int)(l:List Pt):seT.den:=(P,l,())
abbrev vS(P:Int)(l:List Pt):AV:=.val seT (mkS P l)
abbrev pI(n:Int):AV:=.val (.ptr (.int .i64)) (some n)
abbrev vT2(a b:Int):AV:=.tup (.acons (vI a) (.acons (vI b) .anil))
theorem j6{α:Type}(xs:List α){i:Nat}(h:i<xs.length)(d:α):xs.getD i d=xs[i]:=by
 simp[List.getD_eq_getElem?_getD,List.getElem?_eq_getElem h]
theorem fn76(x lo hi:Int):Ox.Fn Tryz.prog 76 (.acons (vI x) (.acons (pI lo) (.acons (pI hi) .anil))) (·=vB (decide (x<lo∨x>hi))):=by
 refine Ox.Fn.intro xok Tryz.func76 rfl Tryz.call76 (Nat.le_of_ble_eq_true rfl) (fun E M0 up=>?_)
 refine j4 ?_
 (repeat (first|refine zs rfl ?_|refine zg rfl rfl rfl ?_|refine zd ?_|refine q9 ?_|refine q8 ?_))
 refine⟨.inl rfl,_,_,rfl,trivial,?_⟩
 by_cases h:x<lo<;>simp[h]
def idxB{α:Type}(p:α→Bool):List α→Nat→Int
 |[],_=>-1
 |x::r,i=>if p x then(i:Int) else idxB p r (i+1)
theorem r7{α:Type}{p:α→Bool}:∀ {xs:List α} {i:Nat},(0≤idxB p xs i)↔xs.any p=true
 |[],i=>by simp[idxB]
 |x::r,i=>by
  simp only[idxB,List.any_cons,Bool.or_eq_true]
  by_cases h:p x=true
  ·simp[h]
  ·rw[if_neg h,r7];simp[h]
theorem fn136{f:FuncId}{t1 t2:Ty}{x1:t1.den}{x2:t2.den}(xs:List Int)(p:Int→Bool)(h:∀ x∈xs,Ox.Fn Tryz.prog f (.acons (vI x) (.acons (.val t1 x1) (.acons (.val t2 x2) .anil))) (·=vB (p x))) :
  Ox.Fn Tryz.prog 136 (.acons (vL xs) (.acons (.fn f .anil (.acons (.val t1 x1) (.acons (.val t2 x2) .anil))) .anil)) (·=vI (idxB p xs 0)):=by
 refine Ox.Fn.intro xok Tryz.func136 rfl Tryz.call136 (Nat.le_of_ble_eq_true rfl) (fun E M0 up=>?_)
 refine j4 ?_
 refine JK.lenOf 0 rfl fun hlen=>?_
 replace hlen:xs.length≤9223372036854775807:=hlen.1
 (repeat (first|refine zs rfl ?_|refine zg rfl rfl rfl ?_|refine zd ?_|refine q9 ?_|refine q8 ?_))
 refine JK.loop (fun i:Nat=>⟨[(0,vL xs),(1,.fn f .anil (.acons (.val t1 x1) (.acons (.val t2 x2) .anil))),(7,vI xs.length),(8,vI (i:Int))],[],0⟩) (fun i=>i≤xs.length∧idxB p xs 0=idxB p (xs.drop i) i) (fun i=>xs.length-i) 0 (by simp) (by(exact z7 (by conv=>lhs;reduce))) fun i ⟨hi,hn⟩=>?_
 (repeat (first|refine zs rfl ?_|refine zg rfl rfl rfl ?_|refine zd ?_|refine q9 ?_|refine q8 ?_))
 refine z8 rfl (fun hc=>?_) (fun hc=>?_)
 ·(simp only[↓cdL] at hc;try simp only[Ty.dflt,Int.toNat_natCast] at hc)
  have hi':i<xs.length:=by omega
  have hx:=h (xs.getD i 0) (by rw[j6 xs hi'];exact List.getElem_mem hi')
  (repeat (first|refine zs rfl ?_|refine zg rfl rfl rfl ?_|refine zd ?_|refine q9 ?_|refine q8 ?_|refine zc rfl (hx) rfl rfl ?_|refine ze rfl (hx) rfl ?_|refine zk rfl rfl (fun _=>hx) rfl rfl ?_))
  refine z8 rfl (fun hd=>?_) (fun hd=>?_)
  ·(repeat (first|refine zs rfl ?_|refine zg rfl rfl rfl ?_|refine zd ?_|refine q9 ?_|refine q8 ?_))
   refine⟨.inl rfl,_,_,rfl,trivial,?_⟩
   rw[j6 xs hi'] at hd
   rw[hn,List.drop_eq_getElem_cons hi',idxB,if_pos hd]
  ·(repeat (first|refine zs rfl ?_|refine zg rfl rfl rfl ?_|refine zd ?_|refine q9 ?_|refine q8 ?_))
   rw[j6 xs hi'] at hd
   refine⟨i+1,by(exact z7 (by conv=>lhs;reduce)),⟨by omega,?_⟩,by omega⟩
   rw[hn,List.drop_eq_getElem_cons hi',idxB,if_neg (by rw[hd];simp)]
 ·(simp only[↓cdL] at hc;try simp only[Ty.dflt,Int.toNat_natCast] at hc)
  (repeat (first|refine zs rfl ?_|refine zg rfl rfl rfl ?_|refine zd ?_|refine q9 ?_|refine q8 ?_))
  refine⟨.inl rfl,_,_,rfl,trivial,?_⟩
  obtain rfl:i=xs.length:=by omega
  rw[hn,List.drop_length];rfl
theorem fn68{f:FuncId}{t1 t2:Ty}{x1:t1.den}{x2:t2.den}(xs:List Int)(p:Int→Bool)(h:∀ x∈xs,Ox.Fn Tryz.prog f (.acons (vI x) (.acons (.val t1 x1) (.acons (.val t2 x2) .anil))) (·=vB (p x))) :
  Ox.Fn Tryz.prog 68 (.acons (vL xs) (.acons (.fn f .anil (.acons (.val t1 x1) (.acons (.val t2 x2) .anil))) .anil)) (·=vB (xs.any p)):=by
 refine Ox.Fn.intro xok Tryz.func68 rfl Tryz.call68 (Nat.le_of_ble_eq_true rfl) (fun E M0 up=>?_)
 refine j4 ?_
 (repeat (first|refine zs rfl ?_|refine zg rfl rfl rfl ?_|refine zd ?_|refine q9 ?_|refine q8 ?_|refine zc rfl (fn136 xs p h) rfl rfl ?_|refine ze rfl (fn136 xs p h) rfl ?_|refine zk rfl rfl (fun _=>fn136 xs p h) rfl rfl ?_))
 refine⟨.inl rfl,_,_,rfl,trivial,?_⟩
 refine congrArg vB ?_
 rw[Bool.eq_iff_iff,← r7 (p:=p) (i:=0)]
 simp
theorem fn35(lo hi:Int)(xs:List Int):Ox.Fn Tryz.prog 35 (.acons (vI lo) (.acons (vI hi) (.acons (vL xs) .anil))) (·=vB (decide (∀ x∈xs,lo≤x∧x≤hi))):=by
 refine Ox.Fn.intro xok Tryz.func35 rfl Tryz.call35 (Nat.le_of_ble_eq_true rfl) (fun E M0 up=>?_)
 refine j4 ?_
 (repeat (first|refine zs rfl ?_|refine zg rfl rfl rfl ?_|refine zd ?_|refine q9 ?_|refine q8 ?_|refine zc rfl (fn68 xs (fun x=>decide (x<lo∨x>hi)) (fun x _=>fn76 x lo hi)) rfl rfl ?_|refine ze rfl (fn68 xs (fun x=>decide (x<lo∨x>hi)) (fun x _=>fn76 x lo hi)) rfl ?_|refine zk rfl rfl (fun _=>fn68 xs (fun x=>decide (x<lo∨x>hi)) (fun x _=>fn76 x lo hi)) rfl rfl ?_))
 refine⟨.inl rfl,_,_,rfl,trivial,?_⟩
 refine congrArg vB ?_
 rw[Bool.eq_iff_iff]
 simp only[Bool.not_eq_true',List.any_eq_false,decide_eq_true_eq]
 refine⟨fun h x hx=>?_,fun h x hx=>?_⟩
 ·have:=h x hx;omega
 ·have:=h x hx;omega
theorem fn125(xs:List Int)(b:Int):Ox.Fn Tryz.prog 125 (.acons (vL xs) (.acons (vI b) .anil)) (·=vI (idxB (fun x=>decide (b=x)) xs 0)):=by
 refine Ox.Fn.intro xok Tryz.func125 rfl Tryz.call125 (Nat.le_of_ble_eq_true rfl) (fun E M0 up=>?_)
 refine j4 ?_
 refine JK.lenOf 0 rfl fun hlen=>?_
 replace hlen:xs.length≤9223372036854775807:=hlen.1
 (repeat (first|refine zs rfl ?_|refine zg rfl rfl rfl ?_|refine zd ?_|refine q9 ?_|refine q8 ?_))
 refine JK.loop (fun i:Nat=>⟨[(0,vL xs),(1,vI b),(7,vI xs.length),(8,vI (i:Int))],[],0⟩) (fun i=>i≤xs.length∧idxB (fun x=>decide (b=x)) xs 0=idxB (fun x=>decide (b=x)) (xs.drop i) i) (fun i=>xs.length-i) 0 (by simp) (by(exact z7 (by conv=>lhs;reduce))) fun i ⟨hi,hn⟩=>?_
 (repeat (first|refine zs rfl ?_|refine zg rfl rfl rfl ?_|refine zd ?_|refine q9 ?_|refine q8 ?_))
 refine z8 rfl (fun hc=>?_) (fun hc=>?_)
 ·(simp only[↓cdL] at hc;try simp only[Ty.dflt,Int.toNat_natCast] at hc)
  have hi':i<xs.length:=by omega
  (repeat (first|refine zs rfl ?_|refine zg rfl rfl rfl ?_|refine zd ?_|refine q9 ?_|refine q8 ?_))
  refine z8 rfl (fun hd=>?_) (fun hd=>?_)
  ·(simp only[↓cdL] at hd;try simp only[Ty.dflt,Int.toNat_natCast] at hd)
   (repeat (first|refine zs rfl ?_|refine zg rfl rfl rfl ?_|refine zd ?_|refine q9 ?_|refine q8 ?_))
   refine⟨.inl rfl,_,_,rfl,trivial,?_⟩
   rw[j6 xs hi'] at hd
   rw[hn,List.drop_eq_getElem_cons hi',idxB,if_pos (by simpa using hd)]
  ·(simp only[↓cdL] at hd;try simp only[Ty.dflt,Int.toNat_natCast] at hd)
   (repeat (first|refine zs rfl ?_|refine zg rfl rfl rfl ?_|refine zd ?_|refine q9 ?_|refine q8 ?_))
   rw[j6 xs hi'] at hd
   refine⟨i+1,by(exact z7 (by conv=>lhs;reduce)),⟨by omega,?_⟩,by omega⟩
   rw[hn,List.drop_eq_getElem_cons hi',idxB,if_neg (by simpa using hd)]
 ·(simp only[↓cdL] at hc;try simp only[Ty.dflt,Int.toNat_natCast] at hc)
  (repeat (first|refine zs rfl ?_|refine zg rfl rfl rfl ?_|refine zd ?_|refine q9 ?_|refine q8 ?_))
  refine⟨.inl rfl,_,_,rfl,trivial,?_⟩
  obtain rfl:i=xs.length:=by omega
  rw[hn,List.drop_length];rfl
theorem fn132(xs:List Int)(b:Int):Ox.Fn Tryz.prog 132 (.acons (vL xs) (.acons (vI b) .anil)) (·=vB (decide (b∈xs))):=by
 refine Ox.Fn.intro xok Tryz.func132 rfl Tryz.call132 (Nat.le_of_ble_eq_true rfl) (fun E M0 up=>?_)
 refine j4 ?_
 (repeat (first|refine zs rfl ?_|refine zg rfl rfl rfl ?_|refine zd ?_|refine q9 ?_|refine q8 ?_|refine zc rfl (fn125 xs b) rfl rfl ?_|refine ze rfl (fn125 xs b) rfl ?_|refine zk rfl rfl (fun _=>fn125 xs b) rfl rfl ?_))
 refine⟨.inl rfl,_,_,rfl,trivial,?_⟩
 refine congrArg vB ?_
 rw[Bool.eq_iff_iff]
 simp only[decide_eq_true_eq]
 refine(r7 (p:=fun x=>decide (b=x)) (i:=0)).trans ?_
 simp
def maxL:List Int→Int
 |[]=>0
 |x::r=>r.foldl Max.max x
theorem q9d{xs:List Int}(h:xs≠[])(x:Int):maxL (xs++[x])=Max.max (maxL xs) x:=by
 cases xs with
 |nil=>exact absurd rfl h
 |cons y r=>rw[List.cons_append,maxL,maxL,List.foldl_append];rfl
theorem fn59(xs:List Int)(h:1≤xs.length):Ox.Fn Tryz.prog 59 (.acons (vL xs) .anil) (·=vI (maxL xs)):=by
 refine Ox.Fn.intro xok Tryz.func59 rfl Tryz.call59 (Nat.le_of_ble_eq_true rfl) (fun E M0 up=>?_)
 refine j4 ?_
 refine JK.lenOf 0 rfl fun hlen=>?_
 replace hlen:xs.length≤9223372036854775807:=hlen.1
 (repeat (first|refine zs rfl ?_|refine zg rfl rfl rfl ?_|refine zd ?_|refine q9 ?_|refine q8 ?_))
 refine z8 rfl (fun hc=>?_) (fun hc=>?_)
 ·(simp only[↓cdL] at hc;try simp only[Ty.dflt,Int.toNat_natCast] at hc)
  omega
 ·(repeat (first|refine zs rfl ?_|refine zg rfl rfl rfl ?_|refine zd ?_|refine q9 ?_|refine q8 ?_))
  refine JK.loop (fun k:Nat=>⟨[(0,vL xs),(3,vI (maxL (xs.take k))),(4,vI (k:Int))],[],0⟩) (fun k=>1≤k∧k≤xs.length) (fun k=>xs.length-k) 1 ⟨Nat.le_refl _,h⟩ ?_ fun k ⟨hk1,hk⟩=>?_
  ·have e:maxL (xs.take 1)=xs.getD 0 0:=by
    cases xs with
    |nil=>simp at h
    |cons x r=>rfl
   rw[e]
   (exact z7 (by conv=>lhs;reduce))
  ·have hnx:k<xs.length→maxL (xs.take (k+1))=Max.max (maxL (xs.take k)) (xs.getD k 0):=fun hlt=>by
    rw[List.take_succ,List.getElem?_eq_getElem hlt,j6 xs hlt]
    exact q9d (by intro e;have:=congrArg List.length e;rw[List.length_take,List.length_nil] at this;omega) _
   (repeat (first|refine zs rfl ?_|refine zg rfl rfl rfl ?_|refine zd ?_|refine q9 ?_|refine q8 ?_))
   refine z8 rfl (fun hd=>?_) (fun hd=>?_)
   ·(simp only[↓cdL] at hd;try simp only[Ty.dflt,Int.toNat_natCast] at hd)
    (repeat (first|refine zs rfl ?_|refine zg rfl rfl rfl ?_|refine zd ?_|refine q9 ?_|refine q8 ?_))
    refine⟨k+1,?_,⟨by omega,by omega⟩,by omega⟩
    rw[hnx (by omega)]
    (exact z7 (by conv=>lhs;reduce))
   ·(simp only[↓cdL] at hd;try simp only[Ty.dflt,Int.toNat_natCast] at hd)
    (repeat (first|refine zs rfl ?_|refine zg rfl rfl rfl ?_|refine zd ?_|refine q9 ?_|refine q8 ?_))
    refine⟨.inl rfl,_,_,rfl,trivial,?_⟩
    rw[List.take_of_length_le (by omega)]
theorem fn137(xs:List Int)(h:1≤xs.length):Ox.Fn Tryz.prog 137 (.acons (vL xs) .anil) (·=vI (maxL xs)):=by
 refine Ox.Fn.intro xok Tryz.func137 rfl Tryz.call137 (Nat.le_of_ble_eq_true rfl) (fun E M0 up=>?_)
 refine j4 ?_
 refine JK.lenOf 0 rfl fun hlen=>?_
 replace hlen:xs.length≤9223372036854775807:=hlen.1
 (repeat (first|refine zs rfl ?_|refine zg rfl rfl rfl ?_|refine zd ?_|refine q9 ?_|refine q8 ?_))
 refine z8 rfl (fun hc=>?_) (fun hc=>?_)
 ·(simp only[↓cdL] at hc;try simp only[Ty.dflt,Int.toNat_natCast] at hc)
  omega
 ·(repeat (first|refine zs rfl ?_|refine zg rfl rfl rfl ?_|refine zd ?_|refine q9 ?_|refine q8 ?_))
  refine JK.loop (fun k:Nat=>⟨[(0,vL xs),(3,vI (maxL (xs.take k))),(4,vI (k:Int))],[],0⟩) (fun k=>1≤k∧k≤xs.length) (fun k=>xs.length-k) 1 ⟨Nat.le_refl _,h⟩ ?_ fun k ⟨hk1,hk⟩=>?_
  ·have e:maxL (xs.take 1)=xs.getD 0 0:=by
    cases xs with
    |nil=>simp at h
    |cons x r=>rfl
   rw[e]
   (exact z7 (by conv=>lhs;reduce))
  ·have hnx:k<xs.length→maxL (xs.take (k+1))=Max.max (maxL (xs.take k)) (xs.getD k 0):=fun hlt=>by
    rw[List.take_succ,List.getElem?_eq_getElem hlt,j6 xs hlt]
    exact q9d (by intro e;have:=congrArg List.length e;rw[List.length_take,List.length_nil] at this;omega) _
   (repeat (first|refine zs rfl ?_|refine zg rfl rfl rfl ?_|refine zd ?_|refine q9 ?_|refine q8 ?_))
   refine z8 rfl (fun hd=>?_) (fun hd=>?_)
   ·(simp only[↓cdL] at hd;try simp only[Ty.dflt,Int.toNat_natCast] at hd)
    (repeat (first|refine zs rfl ?_|refine zg rfl rfl rfl ?_|refine zd ?_|refine q9 ?_|refine q8 ?_))
    refine⟨k+1,?_,⟨by omega,by omega⟩,by omega⟩
    rw[hnx (by omega)]
    (exact z7 (by conv=>lhs;reduce))
   ·(simp only[↓cdL] at hd;try simp only[Ty.dflt,Int.toNat_natCast] at hd)
    (repeat (first|refine zs rfl ?_|refine zg rfl rfl rfl ?_|refine zd ?_|refine q9 ?_|refine q8 ?_))
    refine⟨.inl rfl,_,_,rfl,trivial,?_⟩
    rw[List.take_of_length_le (by omega)]
end Go.Proofs.YtjfafggkkjgpeaaGreatDoor
namespace Go.Proofs.YtjfafggkkjgpeaaGreatDoor
open Go Go.RowKit Ox Ox.Sh Ox.Se
attribute [local irreducible] JC JL JK JW
def okPt(P:Int)(s:Pt):Prop:=(0≤s.1∧s.1<P)∧1≤s.2.1∧s.2.1≤10000
instance (P:Int):DecidablePred (okPt P):=fun s=>by unfold okPt;infer_instance
theorem fn200(s:Pt)(P:Int)(hP:1≤P∧P≤1000):Ox.Fn Tryz.prog 200 (.acons (vP s) (.acons (pI P) .anil)) (·=vB (!decide (okPt P s))):=by
 obtain⟨a,b,_⟩:=s
 refine Ox.Fn.intro xok Tryz.func200 rfl Tryz.call200 (Nat.le_of_ble_eq_true rfl) (fun E M0 up=>?_)
 refine j4 ?_
 have h1:=fn35 0 (P-1) (a::List.nil)
 have h2:=fn35 1 10000 (b::List.nil)
 have e1:(∀ x∈[a],0≤x∧x≤P-1)↔(0≤a∧a<P):=by simp;omega
 have e2:(∀ x∈[b],1≤x∧x≤10000)↔(1≤b∧b≤10000):=by simp
 rw[decide_eq_decide.2 e1] at h1
 rw[decide_eq_decide.2 e2] at h2
 have e3:okPt P (a,b,())↔(0≤a∧a<P)∧1≤b∧b≤10000:=Iff.rfl
 by_cases c1:0≤a∧a<P
 ·rw[decide_eq_true c1] at h1
  (repeat (first|refine zt rfl rfl ?_|refine zs rfl ?_|refine zg rfl rfl rfl ?_|refine zd ?_|refine q9 ?_|refine q8 ?_|refine zc rfl (h1) rfl rfl ?_|refine ze rfl (h1) rfl ?_|refine zk rfl rfl (fun _=>h1) rfl rfl ?_|refine zc rfl (h2) rfl rfl ?_|refine ze rfl (h2) rfl ?_|refine zk rfl rfl (fun _=>h2) rfl rfl ?_))
  refine⟨.inl rfl,_,_,rfl,trivial,?_⟩
  refine congrArg vB ?_
  by_cases c2:1≤b∧b≤10000
  ·have:okPt P (a,b,()):=⟨c1,c2⟩
   rw[decide_eq_true this,decide_eq_true c2];rfl
  ·have:¬ okPt P (a,b,()):=fun h=>c2 h.2
   rw[decide_eq_false this,decide_eq_false c2];rfl
 ·rw[decide_eq_false c1] at h1
  (repeat (first|refine zs rfl ?_|refine zg rfl rfl rfl ?_|refine zd ?_|refine q9 ?_|refine q8 ?_|refine zc rfl (h1) rfl rfl ?_|refine ze rfl (h1) rfl ?_|refine zk rfl rfl (fun _=>h1) rfl rfl ?_))
  (repeat (first|refine zfl rfl rfl rfl ?_|refine q8m rfl rfl rfl rfl (by(first|exact trivial|(try dsimp only[allP,inK,idxC,loC,lohiC,fullC,underG,List.append,List.nil_append,List.cons_append,Ty.den,Ty.dflt,Int.toNat_natCast,List.length_cons,List.length_nil] at *);first|omega|((repeat' (first|exact trivial|assumption|refine And.intro ?_ ?_|exact fun h=>h|(intro hpk;first|exact hpk|simp only[wantB,hpk,Bool.not_false,Bool.not_true])))<;>omega)|fail)) (by(first|exact trivial|(try dsimp only[allP,inK,idxC,loC,lohiC,fullC,underG,List.append,List.nil_append,List.cons_append,Ty.den,Ty.dflt,Int.toNat_natCast,List.length_cons,List.length_nil] at *);first|omega|((repeat' (first|exact trivial|assumption|refine And.intro ?_ ?_|exact fun h=>h|(intro hpk;first|exact hpk|simp only[wantB,hpk,Bool.not_false,Bool.not_true])))<;>omega)|fail)) ?_|refine zs rfl ?_|refine q8 ?_))
  refine⟨.inl rfl,_,_,rfl,trivial,?_⟩
  refine congrArg vB ?_
  have:¬ okPt P (a,b,()):=fun h=>c1 h.1
  rw[decide_eq_false this];rfl
theorem fn242{f:FuncId}{t1:Ty}{x1:t1.den}(xs:List Pt)(p:Pt→Bool)(h:∀ x∈xs,Ox.Fn Tryz.prog f (.acons (vP x) (.acons (.val t1 x1) .anil)) (·=vB (p x))) :
  Ox.Fn Tryz.prog 242 (.acons (vD xs) (.acons (.fn f .anil (.acons (.val t1 x1) .anil)) .anil)) (·=vI (idxB p xs 0)):=by
 refine Ox.Fn.intro xok Tryz.func242 rfl Tryz.call242 (Nat.le_of_ble_eq_true rfl) (fun E M0 up=>?_)
 refine j4 ?_
 refine JK.lenOf 0 rfl fun hlen=>?_
 replace hlen:xs.length≤9223372036854775807:=hlen.1
 (repeat (first|refine zs rfl ?_|refine zg rfl rfl rfl ?_|refine zd ?_|refine q9 ?_|refine q8 ?_))
 refine JK.loop (fun i:Nat=>⟨[(0,vD xs),(1,.fn f .anil (.acons (.val t1 x1) .anil)),(7,vI xs.length),(8,vI (i:Int))],[],0⟩) (fun i=>i≤xs.length∧idxB p xs 0=idxB p (xs.drop i) i) (fun i=>xs.length-i) 0 (by simp) (by(exact z7 (by conv=>lhs;reduce))) fun i ⟨hi,hn⟩=>?_
 (repeat (first|refine zs rfl ?_|refine zg rfl rfl rfl ?_|refine zd ?_|refine q9 ?_|refine q8 ?_))
 refine z8 rfl (fun hc=>?_) (fun hc=>?_)
 ·(simp only[↓cdL] at hc;try simp only[Ty.dflt,Int.toNat_natCast] at hc)
  have hi':i<xs.length:=by omega
  have hx:=h (xs.getD i zP) (by rw[j6 xs hi'];exact List.getElem_mem hi')
  (repeat (first|refine zs rfl ?_|refine zg rfl rfl rfl ?_|refine zd ?_|refine q9 ?_|refine q8 ?_|refine zc rfl (hx) rfl rfl ?_|refine ze rfl (hx) rfl ?_|refine zk rfl rfl (fun _=>hx) rfl rfl ?_))
  refine z8 rfl (fun hd=>?_) (fun hd=>?_)
  ·(repeat (first|refine zs rfl ?_|refine zg rfl rfl rfl ?_|refine zd ?_|refine q9 ?_|refine q8 ?_))
   refine⟨.inl rfl,_,_,rfl,trivial,?_⟩
   rw[j6 xs hi'] at hd
   rw[hn,List.drop_eq_getElem_cons hi',idxB,if_pos hd]
  ·(repeat (first|refine zs rfl ?_|refine zg rfl rfl rfl ?_|refine zd ?_|refine q9 ?_|refine q8 ?_))
   rw[j6 xs hi'] at hd
   refine⟨i+1,by(exact z7 (by conv=>lhs;reduce)),⟨by omega,?_⟩,by omega⟩
   rw[hn,List.drop_eq_getElem_cons hi',idxB,if_neg (by rw[hd];simp)]
 ·(simp only[↓cdL] at hc;try simp only[Ty.dflt,Int.toNat_natCast] at hc)
  (repeat (first|refine zs rfl ?_|refine zg rfl rfl rfl ?_|refine zd ?_|refine q9 ?_|refine q8 ?_))
  refine⟨.inl rfl,_,_,rfl,trivial,?_⟩
  obtain rfl:i=xs.length:=by omega
  rw[hn,List.drop_length];rfl
theorem fn201{f:FuncId}{t1:Ty}{x1:t1.den}(xs:List Pt)(p:Pt→Bool)(h:∀ x∈xs,Ox.Fn Tryz.prog f (.acons (vP x) (.acons (.val t1 x1) .anil)) (·=vB (p x))) :
  Ox.Fn Tryz.prog 201 (.acons (vD xs) (.acons (.fn f .anil (.acons (.val t1 x1) .anil)) .anil)) (·=vB (xs.any p)):=by
 refine Ox.Fn.intro xok Tryz.func201 rfl Tryz.call201 (Nat.le_of_ble_eq_true rfl) (fun E M0 up=>?_)
 refine j4 ?_
 (repeat (first|refine zs rfl ?_|refine zg rfl rfl rfl ?_|refine zd ?_|refine q9 ?_|refine q8 ?_|refine zc rfl (fn242 xs p h) rfl rfl ?_|refine ze rfl (fn242 xs p h) rfl ?_|refine zk rfl rfl (fun _=>fn242 xs p h) rfl rfl ?_))
 refine⟨.inl rfl,_,_,rfl,trivial,?_⟩
 refine congrArg vB ?_
 rw[Bool.eq_iff_iff,← r7 (p:=p) (i:=0)]
 simp
def seE(P:Int)(l:List Pt):Int:=if ¬ (1≤P∧P≤1000) then 2 else if l.length<1∨l.length>8 then 6 else if l.any (fun s=>!decide (okPt P s))=true then 3 else 0
theorem q7o{P:Int}{l:List Pt}:seE P l=0↔(1≤P∧P≤1000)∧1≤l.length∧l.length≤8∧okP P l:=by
 have e:l.any (fun s=>!decide (okPt P s))=true↔¬ okP P l:=by
  rw[List.any_eq_true]
  constructor
  ·rintro⟨s,hs,h⟩ ho
   have:=ho s hs
   have:okPt P s:=this
   simp[this] at h
  ·intro h
   refine Classical.byContradiction fun hn=>h fun s hs=>?_
   refine Classical.byContradiction fun hb=>hn ⟨s,hs,?_⟩
   have:¬ okPt P s:=hb
   simp[this]
 unfold seE
 split
 ·rename_i h;exact⟨fun h'=>absurd h' (by decide),fun h'=>absurd h'.1 h⟩
 ·rename_i h
  split
  ·rename_i h2;exact⟨fun h'=>absurd h' (by decide),fun h'=>absurd h2 (by omega)⟩
  ·rename_i h2
   split
   ·rename_i h3;exact⟨fun h'=>absurd h' (by decide),fun h'=>absurd h'.2.2.2 (e.1 h3)⟩
   ·rename_i h3
    refine⟨fun _=>⟨Classical.not_not.1 h,by omega,by omega,Classical.byContradiction fun hb=>h3 (e.2 hb)⟩,fun _=>rfl⟩
theorem fn127(P:Int)(l:List Pt):Ox.Fn Tryz.prog 127 (.acons (vI P) (.acons (vD l) .anil)) (·=vI (seE P l)):=by
 refine Ox.Fn.intro xok Tryz.func127 rfl Tryz.call127 (Nat.le_of_ble_eq_true rfl) (fun E M0 up=>?_)
 refine j4 ?_
 refine JK.lenOf 1 rfl fun hlen=>?_
 replace hlen:l.length≤9223372036854775807:=hlen.1
 have h1:=fn35 1 1000 (P::List.nil)
 have e1:decide (∀ x∈(P::List.nil),1≤x∧x≤1000)=decide (1≤P∧P≤1000):=decide_eq_decide.2 (by simp)
 rw[e1] at h1
 (repeat (first|refine zs rfl ?_|refine zg rfl rfl rfl ?_|refine zd ?_|refine q9 ?_|refine q8 ?_|refine zc rfl (h1) rfl rfl ?_|refine ze rfl (h1) rfl ?_|refine zk rfl rfl (fun _=>h1) rfl rfl ?_))
 refine z8 rfl (fun hc=>?_) (fun hc=>?_)
 ·(simp only[↓cdL] at hc;try simp only[Ty.dflt,Int.toNat_natCast] at hc)
  (repeat (first|refine zs rfl ?_|refine zg rfl rfl rfl ?_|refine zd ?_|refine q9 ?_|refine q8 ?_))
  refine⟨.inl rfl,_,_,rfl,trivial,?_⟩
  unfold seE;rw[if_pos hc]
 ·(simp only[↓cdL] at hc;try simp only[Ty.dflt,Int.toNat_natCast] at hc)
  have hP:1≤P∧P≤1000:=hc
  (repeat (first|refine zs rfl ?_|refine zg rfl rfl rfl ?_|refine zd ?_|refine q9 ?_|refine q8 ?_))
  refine z8 rfl (fun hd=>?_) (fun hd=>?_)
  ·(simp only[↓cdL] at hd;try simp only[Ty.dflt,Int.toNat_natCast] at hd)
   (repeat (first|refine zs rfl ?_|refine zg rfl rfl rfl ?_|refine zd ?_|refine q9 ?_|refine q8 ?_))
   refine⟨.inl rfl,_,_,rfl,trivial,?_⟩
   unfold seE;rw[if_neg (by omega),if_pos (by omega)]
  ·(simp only[↓cdL] at hd;try simp only[Ty.dflt,Int.toNat_natCast] at hd)
   have h2:=fn201 l (fun s=>!decide (okPt P s)) (fun s _=>fn200 s P hP)
   (repeat (first|refine zs rfl ?_|refine zg rfl rfl rfl ?_|refine zd ?_|refine q9 ?_|refine q8 ?_|refine zc rfl (h2) rfl rfl ?_|refine ze rfl (h2) rfl ?_|refine zk rfl rfl (fun _=>h2) rfl rfl ?_))
   refine z8 rfl (fun he=>?_) (fun he=>?_)
   ·(repeat (first|refine zs rfl ?_|refine zg rfl rfl rfl ?_|refine zd ?_|refine q9 ?_|refine q8 ?_))
    refine⟨.inl rfl,_,_,rfl,trivial,?_⟩
    unfold seE;rw[if_neg (by omega),if_neg (by omega),if_pos he]
   ·(repeat (first|refine zs rfl ?_|refine zg rfl rfl rfl ?_|refine zd ?_|refine q9 ?_|refine q8 ?_))
    refine⟨.inl rfl,_,_,rfl,trivial,?_⟩
    unfold seE;rw[if_neg (by omega),if_neg (by omega),if_neg (by rw[he];simp)]
theorem fn70(P:Int)(l:List Pt):Ox.Fn Tryz.prog 70 (.acons (vS P l) .anil) (·=vI (seE P l)):=by
 refine Ox.Fn.intro xok Tryz.func70 rfl Tryz.call70 (Nat.le_of_ble_eq_true rfl) (fun E M0 up=>?_)
 refine j4 ?_
 (repeat (first|refine zs rfl ?_|refine zg rfl rfl rfl ?_|refine zd ?_|refine q9 ?_|refine q8 ?_|refine zc rfl (fn127 P l) rfl rfl ?_|refine ze rfl (fn127 P l) rfl ?_|refine zk rfl rfl (fun _=>fn127 P l) rfl rfl ?_))
 refine⟨.inl rfl,_,_,rfl,trivial,?_⟩
 rfl
theorem fn21(P:Int)(s:Pt):Ox.Fn Tryz.prog 21 (.acons (vI P) (.acons (vP s) .anil)) (·=vB (decide (okPt P s))):=by
 obtain⟨a,b,_⟩:=s
 refine Ox.Fn.intro xok Tryz.func21 rfl Tryz.call21 (Nat.le_of_ble_eq_true rfl) (fun E M0 up=>?_)
 refine j4 ?_
 (repeat (first|refine zs rfl ?_|refine zg rfl rfl rfl ?_|refine zd ?_|refine q9 ?_|refine q8 ?_))
 refine⟨.inl rfl,_,_,rfl,trivial,?_⟩
 refine congrArg vB ?_
 unfold okPt
 by_cases c1:0≤a<;>by_cases c2:a<P<;>by_cases c3:1≤b<;>by_cases c4:b≤10000<;>simp[c1,c2,c3,c4]
theorem fn6(P:Int)(l:List Pt):Ox.Fn Tryz.prog 6 (.acons (vS P l) .anil) (·=vI (seE P l)):=by
 refine Ox.Fn.intro xok Tryz.func6 rfl Tryz.call6 (Nat.le_of_ble_eq_true rfl) (fun E M0 up=>?_)
 refine j4 ?_
 refine JK.lenOf 0 rfl fun hlen=>?_
 replace hlen:l.length≤9223372036854775807:=hlen.2.1.1
 (repeat (first|refine zs rfl ?_|refine zg rfl rfl rfl ?_|refine zd ?_|refine q9 ?_|refine q8 ?_))
 refine z8 rfl (fun hc=>?_) (fun hc=>?_)
 ·(simp only[↓cdL] at hc;try simp only[Ty.dflt,Int.toNat_natCast] at hc)
  (repeat (first|refine zs rfl ?_|refine zg rfl rfl rfl ?_|refine zd ?_|refine q9 ?_|refine q8 ?_))
  refine⟨.inl rfl,_,_,rfl,trivial,?_⟩
  unfold seE;rw[if_pos (by omega)]
 ·(simp only[↓cdL] at hc;try simp only[Ty.dflt,Int.toNat_natCast] at hc)
  (repeat (first|refine zs rfl ?_|refine zg rfl rfl rfl ?_|refine zd ?_|refine q9 ?_|refine q8 ?_))
  refine z8 rfl (fun hc2=>?_) (fun hc2=>?_)
  ·(simp only[↓cdL] at hc2;try simp only[Ty.dflt,Int.toNat_natCast] at hc2)
   (repeat (first|refine zs rfl ?_|refine zg rfl rfl rfl ?_|refine zd ?_|refine q9 ?_|refine q8 ?_))
   refine⟨.inl rfl,_,_,rfl,trivial,?_⟩
   unfold seE;rw[if_neg (by omega),if_pos (by omega)]
  ·(simp only[↓cdL] at hc2;try simp only[Ty.dflt,Int.toNat_natCast] at hc2)
   (repeat (first|refine zs rfl ?_|refine zg rfl rfl rfl ?_|refine zd ?_|refine q9 ?_|refine q8 ?_))
   refine JK.loop (fun i:Nat=>⟨[(1,.lf (.optr 0 [])),(3,vI (i:Int))],[(0,.cell seT (vS P l))],1⟩) (fun i=>i≤l.length∧∀ s∈l.take i,okPt P s) (fun i=>l.length-i) 0 (by simp) (by(exact z7 (by conv=>lhs;reduce))) fun i ⟨hi,hn⟩=>?_
   (repeat (first|refine zs rfl ?_|refine zg rfl rfl rfl ?_|refine zd ?_|refine q9 ?_|refine q8 ?_))
   refine z8 rfl (fun hd=>?_) (fun hd=>?_)
   ·(simp only[↓cdL] at hd;try simp only[Ty.dflt,Int.toNat_natCast] at hd)
    have hi':i<l.length:=by omega
    have e1:=fn21 P (l.getD i zP)
    have hmem:l.getD i zP∈l:=by rw[j6 l hi'];exact List.getElem_mem hi'
    have htk:l.take (i+1)=l.take i++[l.getD i zP]:=by rw[List.take_succ,List.getElem?_eq_getElem hi',j6 l hi'];rfl
    (repeat (first|refine zs rfl ?_|refine zg rfl rfl rfl ?_|refine zd ?_|refine q9 ?_|refine q8 ?_|refine zc rfl (e1) rfl rfl ?_|refine ze rfl (e1) rfl ?_|refine zk rfl rfl (fun _=>e1) rfl rfl ?_))
    refine z8 rfl (fun he=>?_) (fun he=>?_)
    ·(simp only[↓cdL] at he;try simp only[Ty.dflt,Int.toNat_natCast] at he)
     (repeat (first|refine zs rfl ?_|refine zg rfl rfl rfl ?_|refine zd ?_|refine q9 ?_|refine q8 ?_))
     refine⟨.inl rfl,_,_,rfl,trivial,?_⟩
     unfold seE
     rw[if_neg (by omega),if_neg (by omega),if_pos]
     rw[List.any_eq_true]
     exact⟨_,hmem,by simpa using he⟩
    ·(simp only[↓cdL] at he;try simp only[Ty.dflt,Int.toNat_natCast] at he)
     (repeat (first|refine zs rfl ?_|refine zg rfl rfl rfl ?_|refine zd ?_|refine q9 ?_|refine q8 ?_))
     refine⟨i+1,by(exact z7 (by conv=>lhs;reduce)),⟨by omega,fun s hs=>?_⟩,by omega⟩
     rw[htk] at hs
     rcases List.mem_append.1 hs with hs|hs
     ·exact hn s hs
     ·rw[List.mem_singleton.1 hs];exact he
   ·(simp only[↓cdL] at hd;try simp only[Ty.dflt,Int.toNat_natCast] at hd)
    (repeat (first|refine zs rfl ?_|refine zg rfl rfl rfl ?_|refine zd ?_|refine q9 ?_|refine q8 ?_))
    refine⟨.inl rfl,_,_,rfl,trivial,?_⟩
    obtain rfl:i=l.length:=by omega
    rw[List.take_length] at hn
    exact congrArg vI (q7o.2 ⟨by omega,by omega,by omega,hn⟩).symm
theorem z4u{P:Int}{l:List Pt}(hl:okP P l){n:Nat}(hn:n<l.length):(0≤(l.getD n (0,0,())).1∧(l.getD n (0,0,())).1<P)∧1≤(l.getD n (0,0,())).2.1∧(l.getD n (0,0,())).2.1≤10000:=hl.get hn
theorem fn243(P:Int)(l:List Pt)(n:Nat)(hP:1≤P∧P≤1000)(hl:okP P l)(hn:n<l.length):Ox.Fn Tryz.prog 243 (.acons (vS P l) (.acons (vI n) .anil)) (·=vI (eN P l n)):=by
 obtain⟨h1,h2⟩:=z4u hl hn
 refine Ox.Fn.intro xok Tryz.func243 rfl Tryz.call243 (Nat.le_of_ble_eq_true rfl) (fun E M0 up=>?_)
 refine j4 ?_
 (repeat (first|refine zs rfl ?_|refine zg rfl rfl rfl ?_|refine zd ?_|refine q9 ?_|refine q8 ?_))
 refine⟨.inl rfl,_,_,rfl,trivial,?_⟩
 rfl
theorem fn202(P:Int)(l:List Pt)(n:Int):Ox.Fn Tryz.prog 202 (.acons (vS P l) (.acons (vI n) .anil)) (·=vB (decide (0≤n∧n<(l.length:Int)))):=by
 refine Ox.Fn.intro xok Tryz.func202 rfl Tryz.call202 (Nat.le_of_ble_eq_true rfl) (fun E M0 up=>?_)
 refine j4 ?_
 refine JK.lenOf 0 rfl fun hlen=>?_
 replace hlen:l.length≤9223372036854775807:=hlen.2.1.1
 (repeat (first|refine zs rfl ?_|refine zg rfl rfl rfl ?_|refine zd ?_|refine q9 ?_|refine q8 ?_))
 refine⟨.inl rfl,_,_,rfl,trivial,?_⟩
 by_cases h:0≤n<;>simp[h]
end Go.Proofs.YtjfafggkkjgpeaaGreatDoor
namespace Ox
open Go Go.RowKit
variable {X:Ctx}{s:S}{QA:Exit→S→Prop}
end Ox
namespace Ox
open Go Go.RowKit
variable {X:Ctx}{s:S}{M:Mem}{ρ:Env}{a:Act}{w w':World}{QA:Exit→S→Prop}{all l:List Oper}{md:Bool}
variable {L:List (Nat×AV)}{H:List (Nat×HO)}{nx d m:Nat}{eid:TypeId}{e:Ty}
def ghP(n:Nat):AV→List Bool→Option AV
 |.lf .nils,[]=>some (.lf (.osl n))
 |.mix a b,false::p=>(ghP n a p).map fun x=>.mix x b
 |.mix a b,true::p=>(ghP n b p).map fun x=>.mix a x
 |_,_=>none
theorem z6p{n:Nat}:∀ {v:AV} {p:List Bool} {v':AV},ghP n v p=some v'→v.bd n→v'.bd (n+1)∧(∀ t,confB t v=true→confB t v'=true)∧∀ cs,v.rc M ρ cs→v'.rc M (ρ.nilAt n e) cs:=by
 intro v p v' h hb
 fun_induction ghP n v p generalizing v' with
 |case1=>
  injection h with h;subst h
  refine⟨Nat.lt_succ_self _,fun t ht=>?_,fun cs hc=>?_⟩
  ·cases t<;>first|rfl|(simp[confB] at ht;done)
  ·simp only[AV.rc,Leaf.at] at hc ⊢
   obtain⟨v,h1,h2,h3⟩:=hc
   exact⟨v,by rw[← h1];simp[Env.nilAt],h2,h3⟩
 |case2 a b p ih=>
  simp only[Option.map_eq_some_iff] at h
  obtain⟨a',ha,rfl⟩:=h
  obtain⟨e1,e2,e3⟩:=ih ha hb.1
  refine⟨⟨e1,k0 (Nat.le_succ _) hb.2⟩,fun t ht=>?_,fun cs hc=>?_⟩
  ·cases t with
   |cons ta tb=>simp only[confB,Bool.and_eq_true] at ht ⊢;exact⟨e2 _ ht.1,ht.2⟩
   |arr m e=>
    cases m with
    |zero=>simp[confB] at ht
    |succ m=>simp only[confB,Bool.and_eq_true] at ht ⊢;exact⟨e2 _ ht.1,ht.2⟩
   |_=>simp[confB] at ht
  ·simp only[AV.rc] at hc ⊢
   obtain⟨c1,c2,k1,k2,k3⟩:=hc
   exact⟨c1,c2,e3 _ k1,x4 (Mem.le_refl M) (q0s ρ n e) hb.2 k2,k3⟩
 |case3 a b p ih=>
  simp only[Option.map_eq_some_iff] at h
  obtain⟨b',hb',rfl⟩:=h
  obtain⟨e1,e2,e3⟩:=ih hb' hb.2
  refine⟨⟨k0 (Nat.le_succ _) hb.1,e1⟩,fun t ht=>?_,fun cs hc=>?_⟩
  ·cases t with
   |cons ta tb=>simp only[confB,Bool.and_eq_true] at ht ⊢;exact⟨ht.1,e2 _ ht.2⟩
   |arr m e=>
    cases m with
    |zero=>simp[confB] at ht
    |succ m=>simp only[confB,Bool.and_eq_true] at ht ⊢;exact⟨ht.1,e2 _ ht.2⟩
   |_=>simp[confB] at ht
  ·simp only[AV.rc] at hc ⊢
   obtain⟨c1,c2,k1,k2,k3⟩:=hc
   exact⟨c1,c2,x4 (Mem.le_refl M) (q0s ρ n e) hb.1 k1,e3 _ k2,k3⟩
 |case4=>cases h
theorem z8u{c:Code}(m:Nat)(p:List Bool)(eid:TypeId)(e:Ty){t:Ty}{v v':AV}(hm:lk s.H m=some (.cell t v))(hv:ghP s.nx v p=some v')
  (k:JC X c QA ⟨s.L,updH ((s.nx,.sl eid e [])::s.H) m (.cell t v'),s.nx+1⟩):JC X c QA s:=fun M ρ a w h1 h2=>by
 have g1:=h1.ghost eid e
 have hr:=q0s ρ s.nx e
 have g2:REG X M (ρ.nilAt s.nx e) ⟨s.L,updH ((s.nx,.sl eid e [])::s.H) m (.cell t v'),s.nx+1⟩ a:=by
  have:=h2.grow (H':=updH ((s.nx,.sl eid e [])::s.H) m (.cell t v')) (nx':=s.nx+1) (Mem.le_refl M) hr (Nat.le_succ _) (p5 M)
  exact this
 obtain⟨o1,o2,o3⟩:=h1.own m _ hm
 have hm':lk ((s.nx,HO.sl eid e [])::s.H) m=some (.cell t v):=by
  simp only[lk];rw[if_neg (by omega)];exact hm
 obtain⟨q1,q2,q3⟩:=g1.own m _ hm'
 obtain⟨b1,b2,b3⟩:=z6p (M:=M) (ρ:=ρ) (e:=e) hv o2
 refine k M _ a w (g1.upd hm' (q0h w _) rfl b1 ?_) g2
 simp only[HO.ok] at q3 o3 ⊢
 obtain⟨r1,r2,r3,c,ty,r4,r5⟩:=q3
 obtain⟨u1,u2,u3,c',ty',u4,u5⟩:=o3
 refine⟨r1,b2 t r2,r3,c,ty,r4,?_⟩
 have:w.heap[ρ.blk m]?=some (.cells c ty (0,0)):=by simpa[Env.nilAt] using r4
 rw[this] at u4
 injection u4 with u4;injection u4 with u4 u4';subst u4
 exact b3 _ u5
theorem q0k{c:Code}{r:List Fr}(m:Nat)(p:List Bool)(eid:TypeId)(e:Ty){t:Ty}{v v':AV}(hm:lk s.H m=some (.cell t v))(hv:ghP s.nx v p=some v')
  (k:JK X (.code c::r) QA ⟨s.L,updH ((s.nx,.sl eid e [])::s.H) m (.cell t v'),s.nx+1⟩):JK X (.code c::r) QA s:=z8u m p eid e hm hv k
def toV:(t:Ty)→AV→Option t.den
 |t,.val t' x=>if h:t'=t then some (h▸x) else none
 |.cons a b,.mix x y=>(toV a x).bind fun u=>(toV b y).map fun v=>(u,v)
 |.arr (n+1) e,.mix x y=>(toV e x).bind fun u=>(toV (.arr n e) y).map fun v=>(u::v:List e.den)
 |.slice _,.lf .nils=>some []
 |_,_=>none
theorem toV_rc:∀ {v:AV} {t:Ty} {x:t.den} {cs:List Value},toV t v=some x→v.rc M ρ cs→Rep M t x cs:=by
 intro v
 induction v with
 |val t' y=>
  intro t x cs h hr
  simp only[toV] at h
  split at h
  ·rename_i e;subst e;injection h with h;subst h;simpa only[AV.rc] using hr
  ·cases h
 |mix a b iha ihb=>
  intro t x cs h hr
  simp only[AV.rc] at hr
  obtain⟨c1,c2,r1,r2,rfl⟩:=hr
  cases t with
  |cons ta tb=>
   simp only[toV,Option.bind_eq_some_iff,Option.map_eq_some_iff] at h
   obtain⟨u,hu,v,hv,rfl⟩:=h
   simp only[Rep]
   exact⟨c1,c2,rfl,iha hu r1,ihb hv r2⟩
  |arr n e=>
   cases n with
   |zero=>simp[toV] at h
   |succ n=>
    simp only[toV,Option.bind_eq_some_iff,Option.map_eq_some_iff] at h
    obtain⟨u,hu,v,hv,rfl⟩:=h
    have e1:=iha hu r1
    have e2:=ihb hv r2
    rw[q1o] at e2 ⊢
    obtain⟨f1,f2⟩:=e2
    exact⟨by simp[f1],RL.append (l:=[u]) (m:=v) (q3z e1) f2⟩
  |_=>simp[toV] at h
 |lf y=>
  intro t x cs h hr
  cases t<;>cases y<;>simp only[toV,reduceCtorEq,Option.some.injEq] at h
  subst h
  simp only[AV.rc,Leaf.at] at hr
  obtain⟨v,h1,_,rfl⟩:=hr
  injection h1 with h1;subst h1
  exact v5 M (.slice _)
 |fn f a c _ _=>intro t x cs h hr;cases t<;>simp[toV] at h
 |_=>intro t x cs h hr;simp only[AV.rc] at hr
theorem JC.cellV{c:Code}(m:Nat){t:Ty}{v:AV}{x:t.den}(hm:lk s.H m=some (.cell t v))(hv:toV t v=some x)(k:JC X c QA ⟨s.L,updH s.H m (.cell t (.val t x)),s.nx⟩):JC X c QA s:=fun M ρ a w h1 h2=>by
 obtain⟨o1,o2,o3⟩:=h1.own m _ hm
 refine k M ρ a w (h1.upd hm (q0h w _) rfl trivial ?_) ⟨h2.size,h2.defers,h2.reg⟩
 simp only[HO.ok] at o3 ⊢
 obtain⟨r1,r2,r3,c,ty,r4,r5⟩:=o3
 exact⟨r1,by simp[confB],r3,c,ty,r4,by simp only[AV.rc];exact toV_rc hv r5⟩
theorem JK.cellV{c:Code}{r:List Fr}(m:Nat){t:Ty}{v:AV}{x:t.den}(hm:lk s.H m=some (.cell t v))(hv:toV t v=some x)(k:JK X (.code c::r) QA ⟨s.L,updH s.H m (.cell t (.val t x)),s.nx⟩):JK X (.code c::r) QA s:=JC.cellV m hm hv k
theorem subH_del:∀ {H:List (Nat×HO)} {m:Nat},subH H (del H m):=fun l o h=>by
 rw[q3i] at h
 split at h
 ·cases h
 ·exact h
theorem JL.cutS{xs:List e.den}{hi:Nat}(hd:lk L d=some (.lf (.ovw m 0 hi false)))(hl:lk H m=some (.sl eid e xs))(k:JL X true all QA l ⟨(d,.lf (.osl nx))::L,(nx,.sl eid e (xs.take hi))::del H m,nx+1⟩)(hhi:hi≤xs.length):JL X true all QA l ⟨L,H,nx⟩:=
 q30 (z8a hd hl hhi (fun _ _ h=>h) subH_del (by rw[q3i,if_pos rfl])) k
end Ox
namespace Ox.St
def lnS(s:Int):Nat:=s.natAbs-1
variable (X:Nat→Nat→Bool)
def ext(s:Int)(k:Nat):List Int:=if k=lnS s then [s] else if X (lnS s) k then [0] else []
def layR(R:Nat→List Int)(s:Int):Nat→List Int:=fun k=>
 if k≠lnS s∧X (lnS s) k=false then R k
 else if (R (lnS s)).getLast?=some (-s) then(R k).dropLast
 else if k=lnS s then R k++[s] else R k++[0]
def bld:List Int→Nat→List Int
 |[],_=>[]
 |t::r,k=>bld r k++ext X t k
variable {X:Nat→Nat→Bool}(hs:∀ i j,X i j=X j i)
theorem z07(s:Int):ext X s (lnS s)=[s]:=by simp[ext]
theorem f7(s:Int):lnS (-s)=lnS s:=by simp[lnS]
theorem lay_no{R:Nat→List Int}{s:Int}(h:(R (lnS s)).getLast?≠some (-s)):layR X R s=fun k=>R k++ext X s k:=by
 funext k
 unfold layR ext
 by_cases h1:k=lnS s
 ·rw[if_neg (by simp[h1]),if_neg h,if_pos h1,if_pos h1]
 ·cases h2:X (lnS s) k
  ·simp[h1]
  ·simp[h1,h]
theorem q9f{R R':Nat→List Int}{s:Int}(h:∀ k,R k=R' k++ext X (-s) k):layR X R s=R':=by
 funext k
 have hl:(R (lnS s)).getLast?=some (-s):=by rw[h,← f7 s,z07];simp
 unfold layR
 by_cases h1:k=lnS s
 ·rw[if_neg (by simp[h1]),if_pos hl,h,h1,← f7 s,z07];simp
 ·cases h2:X (lnS s) k
  ·simp[h1,h,ext,f7,h2]
  ·simp only[h1,ne_eq,not_false_eq_true,true_and,Bool.true_eq_false,if_false,hl,if_true]
   rw[h];simp[ext,f7,h1,h2]
def Adj:List Int→Prop
 |x::y::r=>¬ (x≠0∧y=-x)∧Adj (y::r)
 |_=>True
theorem Adj.app:∀ {r:List Int} {y:Int},Adj r→(∀ x,r.getLast?=some x→¬ (x≠0∧y=-x))→Adj (r++[y])
 |[],_,_,_=>trivial
 |[x],y,_,h=>⟨h x rfl,trivial⟩
 |x::z::r,y,h,k=>⟨h.1,Adj.app (r:=z::r) h.2 fun w hw=>k w (by rw[List.getLast?_cons_cons];exact hw)⟩
theorem Adj.left:∀ {r q:List Int},Adj (r++q)→Adj r
 |[],_,_=>trivial
 |[x],_,_=>trivial
 |x::z::r,q,h=>⟨h.1,Adj.left (r:=z::r) (q:=q) h.2⟩
theorem Adj.last:∀ {r:List Int} {x y:Int},Adj (r++[y])→r.getLast?=some x→¬ (x≠0∧y=-x)
 |[],_,_,_,h=>by cases h
 |[z],x,y,h,hx=>by simp at hx;subst hx;exact h.1
 |z::w::r,x,y,h,hx=>Adj.last (r:=w::r) h.2 (by rw[List.getLast?_cons_cons] at hx;exact hx)
structure Pile(X:Nat→Nat→Bool)(rv:List Int)(R:Nat→List Int):Prop where
 eq:R=bld X rv
 nz:∀ t∈rv,t≠0
 adj:∀ k,Adj (R k)
theorem Pile.nil:Pile X [] (fun _=>[]):=⟨by funext k;rfl,fun _ h=>absurd h List.not_mem_nil,fun _=>trivial⟩
theorem z2o(hs:∀ i j,X i j=X j i){s:Int}(hs0:s≠0):∀ {rv:List Int},(∀ t∈rv,t≠0)→(bld X rv (lnS s)).getLast?=some (-s) →
  ∃ r1 r2,rv=r1++-s::r2∧(∀ t∈r1,lnS t≠lnS s∧X (lnS t) (lnS s)=false)∧∀ k,bld X rv k=bld X (r1++r2) k++ext X (-s) k
 |[],_,h=>by simp[bld] at h
 |t::r,hn,h=>by
  simp only[bld] at h
  by_cases h1:lnS s=lnS t
  ·have:ext X t (lnS s)=[t]:=by simp[ext,h1]
   rw[this] at h
   simp at h
   subst h
   exact⟨[],r,rfl,fun _ h=>absurd h List.not_mem_nil,fun k=>rfl⟩
  ·cases h2:X (lnS t) (lnS s)
   ·have:ext X t (lnS s)=[]:=by simp[ext,h1,h2]
    rw[this,List.append_nil] at h
    obtain⟨r1,r2,e1,e2,e3⟩:=z2o hs hs0 (fun x hx=>hn x (List.mem_cons_of_mem _ hx)) h
    refine⟨t::r1,r2,by rw[e1];rfl,fun x hx=>?_,fun k=>?_⟩
    ·rcases List.mem_cons.1 hx with rfl|hx
     ·exact⟨fun e=>h1 e.symm,h2⟩
     ·exact e2 x hx
    ·show bld X r k++ext X t k=(bld X (r1++r2) k++ext X t k)++ext X (-s) k
     rw[e3 k,List.append_assoc,List.append_assoc]
     congr 1
     unfold ext
     rw[f7]
     by_cases k1:k=lnS s
     ·rw[if_pos k1,k1,if_neg h1,h2];simp
     ·rw[if_neg k1]
      by_cases k2:k=lnS t
      ·rw[if_pos k2,k2,hs (lnS s) (lnS t),h2];simp
      ·rw[if_neg k2]
       cases X (lnS s) k<;>cases X (lnS t) k<;>rfl
   ·have:ext X t (lnS s)=[0]:=by simp[ext,h1,h2]
    rw[this] at h
    simp at h
    omega
theorem Pile.undo(hs:∀ i j,X i j=X j i){rv:List Int}{R:Nat→List Int}(h:Pile X rv R){s:Int}(hs0:s≠0)(hu:(R (lnS s)).getLast?=some (-s)) :
  ∃ r1 r2,rv=r1++-s::r2∧(∀ t∈r1,lnS t≠lnS s∧X (lnS t) (lnS s)=false)∧Pile X (r1++r2) (layR X R s)∧∀ k,R k=layR X R s k++ext X (-s) k:=by
 obtain⟨r1,r2,e1,e2,e3⟩:=z2o hs hs0 h.nz (by rw[← h.eq];exact hu)
 have e4:∀ k,R k=bld X (r1++r2) k++ext X (-s) k:=fun k=>by rw[h.eq];exact e3 k
 have e5:=q9f e4
 refine⟨r1,r2,e1,e2,⟨e5,fun t ht=>h.nz t ?_,fun k=>?_⟩,fun k=>by rw[e5];exact e4 k⟩
 ·rw[e1]
  rcases List.mem_append.1 ht with ht|ht
  ·exact List.mem_append_left _ ht
  ·exact List.mem_append_right _ (List.mem_cons_of_mem _ ht)
 ·rw[e5]
  have:=h.adj k
  rw[e4 k] at this
  exact this.left
theorem Pile.put{rv:List Int}{R:Nat→List Int}(h:Pile X rv R){s:Int}(hs0:s≠0)(hu:(R (lnS s)).getLast?≠some (-s)) :
  Pile X (s::rv) (layR X R s)∧∀ k,layR X R s k=R k++ext X s k:=by
 have e:=lay_no (X:=X) hu
 refine⟨⟨?_,fun t ht=>?_,fun k=>?_⟩,fun k=>by rw[e]⟩
 ·rw[e,h.eq];rfl
 ·rcases List.mem_cons.1 ht with rfl|ht
  ·exact hs0
  ·exact h.nz t ht
 ·rw[e]
  show Adj (R k++ext X s k)
  have hk:=h.adj k
  unfold ext
  split
  ·rename_i h1
   refine hk.app fun x hx ⟨_,hy⟩=>hu ?_
   rw[← h1,hx,hy,Int.neg_neg]
  ·split
   ·exact hk.app fun x hx ⟨h1,hy⟩=>by omega
   ·rw[List.append_nil];exact hk
theorem Pile.back(hs:∀ i j,X i j=X j i){rv:List Int}{R:Nat→List Int}(h:Pile X rv R){s:Int}(hs0:s≠0):layR X (layR X R s) (-s)=R:=by
 by_cases hu:(R (lnS s)).getLast?=some (-s)
 ·obtain⟨r1,r2,e1,e2,e3,e4⟩:=h.undo hs hs0 hu
  have hn:(layR X R s (lnS (-s))).getLast?≠some (-(-s)):=fun hc=>by
   have ha:=h.adj (lnS s)
   rw[e4,← f7 s,z07] at ha
   rw[Int.neg_neg] at hc
   exact ha.last hc ⟨hs0,rfl⟩
  rw[lay_no hn]
  funext k
  exact(e4 k).symm
 ·obtain⟨e1,e2⟩:=h.put hs0 hu
  exact q9f fun k=>by rw[e2,Int.neg_neg]
theorem q5e{a b:Int}(hs:∀ i j,X i j=X j i)(h1:lnS a≠lnS b)(h2:X (lnS a) (lnS b)=false)(k:Nat):ext X a k++ext X b k=ext X b k++ext X a k:=by
 unfold ext
 by_cases k1:k=lnS a
 ·rw[if_pos k1,k1,if_neg h1,hs (lnS b),h2];simp
 ·rw[if_neg k1]
  by_cases k2:k=lnS b
  ·rw[if_pos k2,k2,h2];simp
  ·rw[if_neg k2]
   cases X (lnS a) k<;>cases X (lnS b) k<;>rfl
theorem Pile.swap(hs:∀ i j,X i j=X j i){rv:List Int}{R:Nat→List Int}(h:Pile X rv R){a b:Int}(ha:a≠0)(hb:b≠0)(h1:lnS a≠lnS b)(h2:X (lnS a) (lnS b)=false) :
  layR X (layR X R a) b=layR X (layR X R b) a:=by
 have h2':X (lnS b) (lnS a)=false:=by rw[hs];exact h2
 have off:∀ {u v:Int},lnS u≠lnS v→X (lnS u) (lnS v)=false→layR X R u (lnS v)=R (lnS v):=fun {u v} q1 q2=>by
  unfold layR;rw[if_pos ⟨q1.symm,q2⟩]
 by_cases ua:(R (lnS a)).getLast?=some (-a)<;>by_cases ub:(R (lnS b)).getLast?=some (-b)
 ·obtain⟨_,_,_,_,pa,ea⟩:=h.undo hs ha ua
  obtain⟨_,_,_,_,pb,eb⟩:=h.undo hs hb ub
  have u1:(layR X R a (lnS b)).getLast?=some (-b):=by rw[off h1 h2];exact ub
  obtain⟨_,_,_,_,_,e1⟩:=pa.undo hs hb u1
  refine(q9f fun k=>?_).symm
  have q1:=ea k
  rw[e1 k,List.append_assoc,q5e hs (by rw[f7,f7];exact h1.symm) (by rw[f7,f7];exact h2'),← List.append_assoc] at q1
  have q2:=eb k
  rw[q1] at q2
  exact(List.append_cancel_right q2).symm
 ·obtain⟨_,_,_,_,pa,ea⟩:=h.undo hs ha ua
  obtain⟨pb,eb⟩:=h.put hb ub
  have u1:(layR X R a (lnS b)).getLast?≠some (-b):=by rw[off h1 h2];exact ub
  obtain⟨_,e1⟩:=pa.put hb u1
  refine(q9f fun k=>?_).symm
  rw[eb,e1,ea k,List.append_assoc,List.append_assoc,q5e hs (by rw[f7];exact h1) (by rw[f7];exact h2)]
 ·obtain⟨pa,ea⟩:=h.put ha ua
  obtain⟨_,_,_,_,pb,eb⟩:=h.undo hs hb ub
  have u1:(layR X R b (lnS a)).getLast?≠some (-a):=by rw[off h1.symm h2'];exact ua
  obtain⟨_,e1⟩:=pb.put ha u1
  refine q9f fun k=>?_
  rw[ea,e1,eb k,List.append_assoc,List.append_assoc,q5e hs (by rw[f7];exact h1.symm) (by rw[f7];exact h2')]
 ·obtain⟨pa,ea⟩:=h.put ha ua
  obtain⟨pb,eb⟩:=h.put hb ub
  obtain⟨_,e1⟩:=pa.put hb (by rw[off h1 h2];exact ub)
  obtain⟨_,e2⟩:=pb.put ha (by rw[off h1.symm h2'];exact ua)
  funext k
  rw[e1,e2,ea,eb,List.append_assoc,List.append_assoc,q5e hs h1 h2]
def layL(R:Nat→List Int)(u:List Int):Nat→List Int:=u.foldl (layR X) R
theorem Pile.lay(hs:∀ i j,X i j=X j i){rv:List Int}{R:Nat→List Int}(h:Pile X rv R){s:Int}(hs0:s≠0):∃ rv',Pile X rv' (layR X R s)∧rv'.length≤rv.length+1∧∀ t∈rv',t=s∨t∈rv:=by
 by_cases hu:(R (lnS s)).getLast?=some (-s)
 ·obtain⟨r1,r2,e1,_,e2,_⟩:=h.undo hs hs0 hu
  refine⟨_,e2,by rw[e1];simp;omega,fun t ht=>.inr ?_⟩
  rw[e1]
  rcases List.mem_append.1 ht with ht|ht
  ·exact List.mem_append_left _ ht
  ·exact List.mem_append_right _ (List.mem_cons_of_mem _ ht)
 ·exact⟨_,(h.put hs0 hu).1,by simp,fun t ht=>List.mem_cons.1 ht⟩
theorem q94(hs:∀ i j,X i j=X j i):∀ {u rv:List Int} {R:Nat→List Int},Pile X rv R→(∀ s∈u,s≠0)→∃ rv',Pile X rv' (Ox.St.layL (X:=X) R u)∧rv'.length≤rv.length+u.length∧∀ t∈rv',t∈u∨t∈rv
 |[],rv,R,h,_=>⟨rv,h,by simp,fun t ht=>.inr ht⟩
 |s::u,rv,R,h,hn=>by
  obtain⟨rv1,h1,h2,h4⟩:=h.lay hs (hn s List.mem_cons_self)
  obtain⟨rv2,h3,h5,h6⟩:=q94 hs (u:=u) h1 fun x hx=>hn x (List.mem_cons_of_mem _ hx)
  refine⟨rv2,h3,by rw[List.length_cons];omega,fun t ht=>?_⟩
  rcases h6 t ht with h|h
  ·exact .inl (List.mem_cons_of_mem _ h)
  ·rcases h4 t h with h|h
   ·exact .inl (h▸List.mem_cons_self)
   ·exact .inr h
def Eqv(X:Nat→Nat→Bool)(u v:List Int):Prop:=∀ rv R,Pile X rv R→layL (X:=X) R u=layL (X:=X) R v
def Nz(u:List Int):Prop:=∀ s∈u,s≠0
theorem q2g(R:Nat→List Int)(u v:List Int):layL (X:=X) R (u++v)=layL (X:=X) (layL (X:=X) R u) v:=List.foldl_append ..
theorem Eqv.refl(u:List Int):Eqv X u u:=fun _ _ _=>rfl
theorem Eqv.trans{u v w:List Int}(h:Eqv X u v)(k:Eqv X v w):Eqv X u w:=fun rv R p=>(h rv R p).trans (k rv R p)
theorem Eqv.symm{u v:List Int}(h:Eqv X u v):Eqv X v u:=fun rv R p=>(h rv R p).symm
theorem Eqv.app(hs:∀ i j,X i j=X j i){u v:List Int}(h:Eqv X u v){x:List Int}(hx:Nz x)(y:List Int):Eqv X (x++u++y) (x++v++y):=fun rv R p=>by
 obtain⟨rv',p',_⟩:=q94 hs p hx
 rw[q2g,q2g,q2g,q2g,h _ _ p']
theorem Eqv.back(hs:∀ i j,X i j=X j i){s:Int}(h:s≠0):Eqv X [s,-s] []:=fun rv R p=>p.back hs h
theorem Eqv.swap(hs:∀ i j,X i j=X j i){a b:Int}(ha:a≠0)(hb:b≠0)(h1:lnS a≠lnS b)(h2:X (lnS a) (lnS b)=false):Eqv X [a,b] [b,a]:=fun rv R p=>p.swap hs ha hb h1 h2
theorem z22(hs:∀ i j,X i j=X j i){s:Int}(h0:s≠0):∀ {r:List Int},Nz r→(∀ t∈r,lnS t≠lnS s∧X (lnS t) (lnS s)=false)→Eqv X (r++[s]) (s::r)
 |[],_,_=>Eqv.refl _
 |t::r,hn,h=>by
  obtain⟨h1,h2⟩:=h t List.mem_cons_self
  have e1:=z22 hs h0 (fun x hx=>hn x (List.mem_cons_of_mem _ hx)) fun x hx=>h x (List.mem_cons_of_mem _ hx)
  have e2:=e1.app hs (x:=[t]) (fun x hx=>by rw[List.mem_singleton.1 hx];exact hn t List.mem_cons_self) []
  have e3:=(Eqv.swap hs (hn t List.mem_cons_self) h0 h1 h2).app hs (x:=[]) (fun _ h=>absurd h List.not_mem_nil) r
  simp only[List.append_nil,List.nil_append,List.singleton_append,List.cons_append] at e2 e3 ⊢
  exact e2.trans e3
theorem pile_eqv(hs:∀ i j,X i j=X j i)(u:List Int)(hn:Nz u):∃ rv,Pile X rv (layL (X:=X) (fun _=>[]) u)∧Eqv X u rv.reverse∧(∀ t∈rv,t∈u)∧rv.length≤u.length:=by
 have key:∀ n,n≤u.length→∃ rv,Pile X rv (layL (X:=X) (fun _=>[]) (u.take n))∧Eqv X (u.take n) rv.reverse∧(∀ t∈rv,t∈u)∧rv.length≤n:=by
  intro n
  induction n with
  |zero=>exact fun _=>⟨[],Pile.nil,Eqv.refl _,fun _ h=>absurd h List.not_mem_nil,Nat.le_refl _⟩
  |succ n ih=>
   intro hl
   obtain⟨rv,p,e,hm,hlen⟩:=ih (by omega)
   have ht:u.take (n+1)=u.take n++[u[n]]:=by rw[List.take_succ_eq_append_getElem (by omega)]
   have hsm:u[n]∈u:=List.getElem_mem _
   generalize u[n]=s at *
   have hs0:=hn s hsm
   rw[ht,q2g]
   have e2:Eqv X (u.take n++[s]) (rv.reverse++[s]):=by
    have:=e.app hs (x:=[]) (fun _ h=>absurd h List.not_mem_nil) [s]
    simpa using this
   by_cases hu:(layL (X:=X) (fun _=>[]) (u.take n) (lnS s)).getLast?=some (-s)
   ·obtain⟨r1,r2,e1,e4,e5,_⟩:=p.undo hs hs0 hu
    have hm':∀ t∈r1++r2,t∈rv:=fun t ht=>by
     rw[e1]
     rcases List.mem_append.1 ht with ht|ht
     ·exact List.mem_append_left _ ht
     ·exact List.mem_append_right _ (List.mem_cons_of_mem _ ht)
    refine⟨r1++r2,e5,e2.trans ?_,fun t ht=>hm t (hm' t ht),by have:=congrArg List.length e1;simp at this ⊢;omega⟩
    have hz1:Nz r1.reverse:=fun t ht=>p.nz t (hm' t (List.mem_append_left _ (List.mem_reverse.1 ht)))
    have hz2:Nz r2.reverse:=fun t ht=>p.nz t (hm' t (List.mem_append_right _ (List.mem_reverse.1 ht)))
    have q1:=z22 hs hs0 hz1 fun t ht=>e4 t (List.mem_reverse.1 ht)
    have q2:=q1.app hs (x:=r2.reverse++[-s]) (fun t ht=>by
     rcases List.mem_append.1 ht with ht|ht
     ·exact hz2 t ht
     ·rw[List.mem_singleton.1 ht];omega) []
    have q3:=(Eqv.back (X:=X) hs (s:=-s) (by omega)).app hs hz2 r1.reverse
    rw[Int.neg_neg] at q3
    rw[e1]
    simp only[List.reverse_append,List.reverse_cons,List.append_nil,List.append_assoc,List.singleton_append,List.cons_append,List.nil_append] at q2 q3 ⊢
    exact q2.trans q3
   ·obtain⟨e5,_⟩:=p.put hs0 hu
    refine⟨s::rv,e5,by rw[List.reverse_cons];exact e2,fun t ht=>?_,by simp;omega⟩
    rcases List.mem_cons.1 ht with rfl|ht
    ·exact hsm
    ·exact hm t ht
 have:=key u.length (Nat.le_refl _)
 rwa[List.take_length] at this
end Ox.St
namespace Ox.St
variable {X:Nat→Nat→Bool}
theorem bld_app(a b:List Int)(k:Nat):bld X (a++b) k=bld X b k++bld X a k:=by
 induction a with
 |nil=>simp[bld]
 |cons t a ih=>rw[List.cons_append];simp only[bld];rw[ih,List.append_assoc]
theorem q8h{rv:List Int}{k:Nat}{y:Int}(h:y∈bld X rv k)(hy:y≠0):lnS y=k∧y∈rv:=by
 induction rv with
 |nil=>simp[bld] at h
 |cons t r ih=>
  simp only[bld,List.mem_append] at h
  rcases h with h|h
  ·exact⟨(ih h).1,List.mem_cons_of_mem _ (ih h).2⟩
  ·unfold ext at h
   split at h
   ·rename_i e;rw[List.mem_singleton.1 h];exact⟨e.symm,List.mem_cons_self⟩
   ·split at h
    ·exact absurd (List.mem_singleton.1 h) hy
    ·simp at h
theorem bld_off{rv:List Int}{k:Nat}(h:bld X rv k=[]):∀ t∈rv,lnS t≠k∧X (lnS t) k=false:=by
 induction rv with
 |nil=>exact fun _ h=>absurd h List.not_mem_nil
 |cons t r ih=>
  simp only[bld,List.append_eq_nil_iff] at h
  intro x hx
  rcases List.mem_cons.1 hx with rfl|hx
  ·have h2:=h.2
   unfold ext at h2
   by_cases e:k=lnS x
   ·rw[if_pos e] at h2;simp at h2
   ·rw[if_neg e] at h2
    refine⟨fun q=>e q.symm,?_⟩
    cases hX:X (lnS x) k
    ·rfl
    ·rw[hX] at h2;simp at h2
  ·exact ih h.1 x hx
theorem q6t:∀ {l:List Int},(∀ y∈l,y=0)→l++[0]=0::l
 |[],_=>rfl
 |x::r,h=>by
  rw[h x List.mem_cons_self,List.cons_append,q6t fun y hy=>h y (List.mem_cons_of_mem _ hy)]
theorem q9v(hs:∀ i j,X i j=X j i){s:Int}(hs0:s≠0):∀ {rv:List Int},(∀ t∈rv,t≠0)→(bld X rv (lnS s)).head?=some s →
  ∃ r1 r2,rv=r1++s::r2∧(∀ t∈r2,lnS t≠lnS s∧X (lnS t) (lnS s)=false)∧∀ k,bld X rv k=ext X s k++bld X (r1++r2) k
 |[],_,h=>by simp[bld] at h
 |t::r,hn,h=>by
  by_cases hr:bld X r (lnS s)=[]
  ·simp only[bld,hr,List.nil_append] at h
   unfold ext at h
   split at h
   ·simp at h
    subst h
    have ho:=bld_off hr
    refine⟨[],r,rfl,ho,fun k=>?_⟩
    simp only[bld,List.nil_append]
    unfold ext
    by_cases h1:k=lnS t
    ·rw[if_pos h1,h1,hr];rfl
    ·rw[if_neg h1]
     cases h2:X (lnS t) k
     ·simp
     ·simp only[if_true]
      exact q6t fun y hy=>Classical.byContradiction fun hy0=>by
       obtain⟨q1,q2⟩:=q8h hy hy0
       have q3:=(ho y q2).2
       rw[q1,hs,h2] at q3
       cases q3
   ·split at h
    ·simp at h;omega
    ·simp at h
  ·have h':(bld X r (lnS s)).head?=some s:=by
    simp only[bld] at h
    cases hb:bld X r (lnS s) with
    |nil=>exact absurd hb hr
    |cons x y=>rw[hb] at h;simpa using h
   obtain⟨r1,r2,e1,e2,e3⟩:=q9v hs hs0 (fun x hx=>hn x (List.mem_cons_of_mem _ hx)) h'
   refine⟨t::r1,r2,by rw[e1];rfl,e2,fun k=>?_⟩
   simp only[bld,List.cons_append]
   rw[e3 k,List.append_assoc]
def takeR(X:Nat→Nat→Bool)(R:Nat→List Int)(s:Int):Nat→List Int:=fun k=>if k=lnS s∨X (lnS s) k=true then(R k).drop 1 else R k
theorem Adj.tail{x:Int}{r:List Int}(h:Adj (x::r)):Adj r:=by
 cases r with
 |nil=>trivial
 |cons y r=>exact h.2
theorem Pile.take(hs:∀ i j,X i j=X j i){rv:List Int}{R:Nat→List Int}(h:Pile X rv R){s:Int}(hs0:s≠0)(hf:(R (lnS s)).head?=some s) :
  ∃ r1 r2,rv=r1++s::r2∧(∀ t∈r2,lnS t≠lnS s∧X (lnS t) (lnS s)=false)∧Pile X (r1++r2) (takeR X R s)∧∀ k,R k=ext X s k++takeR X R s k:=by
 obtain⟨r1,r2,e1,e2,e3⟩:=q9v hs hs0 h.nz (by rw[← h.eq];exact hf)
 have e4:∀ k,R k=ext X s k++bld X (r1++r2) k:=fun k=>by rw[h.eq];exact e3 k
 have e5:takeR X R s=bld X (r1++r2):=by
  funext k
  unfold takeR
  by_cases h1:k=lnS s
  ·rw[if_pos (.inl h1),e4 k];simp[ext,h1]
  ·cases h2:X (lnS s) k
   ·rw[if_neg (by simp[h1]),e4 k];simp[ext,h1,h2]
   ·rw[if_pos (.inr rfl),e4 k];simp[ext,h1,h2]
 refine⟨r1,r2,e1,e2,⟨e5,fun t ht=>h.nz t ?_,fun k=>?_⟩,fun k=>by rw[e5];exact e4 k⟩
 ·rw[e1]
  rcases List.mem_append.1 ht with ht|ht
  ·exact List.mem_append_left _ ht
  ·exact List.mem_append_right _ (List.mem_cons_of_mem _ ht)
 ·rw[e5]
  have:=h.adj k
  rw[e4 k] at this
  unfold ext at this
  split at this
  ·exact this.tail
  ·split at this
   ·exact this.tail
   ·exact this
def frontK(r:List Int):List Int:=match r with
 |s::_=>if s=0 then [] else [s]
 |[]=>[]
def frontsN(R:Nat→List Int):Nat→List Int
 |0=>[]
 |n+1=>frontsN R n++frontK (R n)
def frontsR(R:Nat→List Int):List Int:=frontsN R 8
theorem q21{R:Nat→List Int}{s:Int}:∀ {n:Nat},s∈frontsN R n↔∃ k,k<n∧s≠0∧(R k).head?=some s
 |0=>by simp[frontsN]
 |n+1=>by
  simp only[frontsN,List.mem_append,q21 (n:=n)]
  constructor
  ·rintro(⟨k,h1,h2⟩|h)
   ·exact⟨k,by omega,h2⟩
   ·refine⟨n,Nat.lt_succ_self n,?_⟩
    unfold frontK at h
    split at h
    ·rename_i x y e
     split at h
     ·simp at h
     ·rename_i h0;rw[List.mem_singleton.1 h];exact⟨h0,by rw[e];rfl⟩
    ·simp at h
  ·rintro⟨k,h1,h2,h3⟩
   rcases Nat.lt_or_ge k n with h|h
   ·exact .inl ⟨k,h,h2,h3⟩
   ·obtain rfl:k=n:=by omega
    right
    cases hR:R k with
    |nil=>rw[hR] at h3;simp at h3
    |cons x y=>rw[hR] at h3;simp at h3;subst h3;simp[frontK,h2]
theorem Pile.front{rv:List Int}{R:Nat→List Int}(h:Pile X rv R){s:Int}(hm:s∈frontsR R):s≠0∧(R (lnS s)).head?=some s∧s∈rv:=by
 obtain⟨k,h1,h2,h3⟩:=q21.1 hm
 have hk:s∈R k:=List.mem_of_head? h3
 rw[h.eq] at hk
 obtain⟨e1,e2⟩:=q8h hk h2
 rw[e1]
 exact⟨h2,h3,e2⟩
theorem Pile.none{rv:List Int}{R:Nat→List Int}(h:Pile X rv R)(hb:∀ t∈rv,lnS t<8)(hf:frontsR R=[]):rv=[]:=by
 rcases List.eq_nil_or_concat rv with h0|⟨r,t,h0⟩
 ·exact h0
 ·exfalso
  have h0:rv=r++[t]:=by simpa using h0
  have ht:t∈rv:=by rw[h0];simp
  have h1:R (lnS t)=t::bld X r (lnS t):=by
   rw[h.eq,h0,bld_app]
   simp[bld,ext]
  have:t∈frontsR R:=q21.2 ⟨lnS t,hb t ht,h.nz t ht,by rw[h1];rfl⟩
  rw[hf] at this
  simp at this
def formR(X:Nat→Nat→Bool):Nat→(Nat→List Int)→List Int
 |0,_=>[]
 |n+1,R=>match frontsR R with
  |[]=>[]
  |s::_=>s::formR X n (takeR X R s)
theorem q9n{n:Nat}{R:Nat→List Int}(h:frontsR R=[]):formR X n R=[]:=by
 cases n with
 |zero=>rfl
 |succ n=>simp only[formR];rw[h]
theorem q66{n:Nat}{R:Nat→List Int}{s:Int}{r:List Int}(h:frontsR R=s::r):formR X (n+1) R=s::formR X n (takeR X R s):=by
 simp only[formR];rw[h]
theorem q76:frontsR (fun _=>[])=[]:=rfl
def keyS(s:Int):Int:=if s<0 then -2*s-1 else 2*s-2
theorem key_line{a b:Int}(ha:a≠0)(hb:b≠0)(h:lnS a<lnS b):keyS a<keyS b:=by
 unfold lnS at h;unfold keyS
 split<;>split<;>omega
theorem q3l{rv:List Int}{R:Nat→List Int}(h:Pile X rv R):∀ n,(frontsN R n).Pairwise (fun a b=>keyS a<keyS b)∧∀ a∈frontsN R n,a≠0∧lnS a<n
 |0=>⟨List.Pairwise.nil,fun _ h=>absurd h List.not_mem_nil⟩
 |n+1=>by
  obtain⟨h1,h2⟩:=q3l h n
  have hk:∀ b∈frontK (R n),b≠0∧lnS b=n:=fun b hb=>by
   have:b∈R n∧b≠0:=by
    unfold frontK at hb
    split at hb
    ·rename_i x y e
     split at hb
     ·simp at hb
     ·rename_i h0;rw[List.mem_singleton.1 hb];exact⟨by rw[e];exact List.mem_cons_self,h0⟩
    ·simp at hb
   have hb2:=this.1
   rw[h.eq] at hb2
   exact⟨this.2,(q8h hb2 this.2).1⟩
  refine⟨?_,fun a ha=>?_⟩
  ·simp only[frontsN]
   refine List.pairwise_append.2 ⟨h1,?_,fun a ha b hb=>?_⟩
   ·unfold frontK;split
    ·split
     ·exact List.Pairwise.nil
     ·exact List.pairwise_singleton _ _
    ·exact List.Pairwise.nil
   ·obtain⟨a1,a2⟩:=h2 a ha
    obtain⟨b1,b2⟩:=hk b hb
    exact key_line a1 b1 (by omega)
  ·rcases List.mem_append.1 ha with ha|ha
   ·exact⟨(h2 a ha).1,by have:=(h2 a ha).2;omega⟩
   ·exact⟨(hk a ha).1,by have:=(hk a ha).2;omega⟩
def leastG(key:Int→Int):Int→List Int→Int
 |b,[]=>b
 |b,x::r=>leastG key (if key x<key b then x else b) r
theorem q5z{key:Int→Int}{s:Int}:∀ {r:List Int},(∀ x∈r,key s<key x)→leastG key s r=s
 |[],_=>rfl
 |x::r,h=>by
  have:=h x List.mem_cons_self
  rw[leastG,if_neg (by omega)]
  exact q5z fun y hy=>h y (List.mem_cons_of_mem _ hy)
def rowsD(R:Nat→List Int):List (List Int):=(List.range 8).map R
theorem z4l(R:Nat→List Int):(rowsD R).length=8:=by simp[rowsD]
theorem q80(R:Nat→List Int){k:Nat}(h:k<8)(d:List Int):(rowsD R).getD k d=R k:=by
 simp[rowsD,List.getD_eq_getElem?_getD,List.getElem?_map,List.getElem?_range h]
theorem z4k(R:Nat→List Int){k:Nat}(h:k<8)(y:List Int):(rowsD R).set k y=rowsD (fun j=>if j=k then y else R j):=by
 apply List.ext_getElem
 ·simp[rowsD]
 ·intro i h1 h2
  simp only[rowsD,List.getElem_set,List.getElem_map,List.getElem_range]
  by_cases e:k=i
  ·rw[if_pos e,if_pos e.symm]
  ·rw[if_neg e,if_neg fun q=>e q.symm]
theorem Eqv.rot(hs:∀ i j,X i j=X j i){x y:List Int}(hx:Nz x)(hy:Nz y)(h:Eqv X (x++y) []):Eqv X (y++x) []:=by
 have hback:∀ {u:List Int},Nz u→Eqv X (u++(u.reverse.map fun s=>-s)) []:=by
  intro u
  induction u with
  |nil=>exact fun _=>Eqv.refl _
  |cons s u ih=>
   intro hn
   have e1:=ih fun t ht=>hn t (List.mem_cons_of_mem _ ht)
   have e2:=e1.app hs (x:=[s]) (fun t ht=>by rw[List.mem_singleton.1 ht];exact hn s List.mem_cons_self) [-s]
   have e3:=Eqv.back hs (hn s List.mem_cons_self)
   simp only[List.append_nil,List.singleton_append,List.cons_append,List.nil_append,List.reverse_cons,List.map_append,List.map_cons,List.map_nil,List.append_assoc] at e2 e3 ⊢
   exact e2.trans e3
 have hyb:=hback hy
 generalize (y.reverse.map fun s=>-s)=z at hyb
 have hyx:Nz (y++x):=fun t ht=>(List.mem_append.1 ht).elim (hy t) (hx t)
 have e1:=(hyb.app hs hyx []).symm
 have e2:=h.app hs hy z
 simp only[List.append_nil,List.nil_append,List.append_assoc] at e1 e2 hyb ⊢
 exact(e1.trans e2).trans hyb
theorem z2e(hs:∀ i j,X i j=X j i){u:List Int}(hn:Nz u)(hb:∀ t∈u,lnS t<8){n:Nat}(hn1:1≤n) :
  formR X n (layL (X:=X) (fun _=>[]) u)=[]↔Eqv X u []:=by
 obtain⟨rv,p,e,hm,_⟩:=pile_eqv hs u hn
 constructor
 ·intro h
  have hf:frontsR (layL (X:=X) (fun _=>[]) u)=[]:=by
   obtain⟨m,rfl⟩:∃ m,n=m+1:=⟨n-1,by omega⟩
   cases hq:frontsR (layL (X:=X) (fun _=>[]) u) with
   |nil=>rfl
   |cons s r=>rw[q66 hq] at h;cases h
  have:=p.none (fun t ht=>hb t (hm t ht)) hf
  rw[this] at e
  exact e
 ·intro h
  rw[h _ _ Pile.nil]
  exact q9n q76
end Ox.St
namespace Go.Proofs.YtjfafggkkjgpeaaGreatDoor
open Go Go.RowKit Ox Ox.Sh Ox.Se
attribute [local irreducible] JC JL JK JW
abbrev prT:Ty:=.arr 2 (.int .i64)
abbrev vPr(p:List Int):AV:=.val prT p
abbrev beT:Ty:=.cons (.int .i64) (.cons (.slice prT) .nil)
abbrev mkB(n:Int)(ps:List (List Int)):beT.den:=(n,ps,())
abbrev vBe(n:Int)(ps:List (List Int)):AV:=.val beT (mkB n ps)
theorem g6:EqT Tryz.prog prT 123:=.of (by decide +kernel)
theorem fn205(x lo hi:Int):Ox.Fn Tryz.prog 205 (.acons (vI x) (.acons (pI lo) (.acons (pI hi) .anil))) (·=vB (decide (x<lo∨x>hi))):=by
 refine Ox.Fn.intro xok Tryz.func205 rfl Tryz.call205 (Nat.le_of_ble_eq_true rfl) (fun E M0 up=>?_)
 refine j4 ?_
 (repeat (first|refine zs rfl ?_|refine zg rfl rfl rfl ?_|refine zd ?_|refine q9 ?_|refine q8 ?_|refine zne g6 rfl rfl rfl ?_))
 refine⟨.inl rfl,_,_,rfl,trivial,?_⟩
 by_cases h:x<lo<;>simp[h]
theorem fn78b{f:FuncId}{t1 t2:Ty}{x1:t1.den}{x2:t2.den}(xs:List Int)(p:Int→Bool)(h:∀ x∈xs,Ox.Fn Tryz.prog f (.acons (vI x) (.acons (.val t1 x1) (.acons (.val t2 x2) .anil))) (·=vB (p x))) :
  Ox.Fn Tryz.prog 78 (.acons (vL xs) (.acons (.fn f .anil (.acons (.val t1 x1) (.acons (.val t2 x2) .anil))) .anil)) (·=vI (idxB p xs 0)):=by
 refine Ox.Fn.intro xok Tryz.func78 rfl Tryz.call78 (Nat.le_of_ble_eq_true rfl) (fun E M0 up=>?_)
 refine j4 ?_
 refine JK.lenOf 0 rfl fun hlen=>?_
 replace hlen:xs.length≤9223372036854775807:=hlen.1
 (repeat (first|refine zs rfl ?_|refine zg rfl rfl rfl ?_|refine zd ?_|refine q9 ?_|refine q8 ?_|refine zne g6 rfl rfl rfl ?_))
 refine JK.loop (fun i:Nat=>⟨[(0,vL xs),(1,.fn f .anil (.acons (.val t1 x1) (.acons (.val t2 x2) .anil))),(7,vI xs.length),(8,vI (i:Int))],[],0⟩) (fun i=>i≤xs.length∧idxB p xs 0=idxB p (xs.drop i) i) (fun i=>xs.length-i) 0 (by simp) (by(exact z7 (by conv=>lhs;reduce))) fun i ⟨hi,hn⟩=>?_
 (repeat (first|refine zs rfl ?_|refine zg rfl rfl rfl ?_|refine zd ?_|refine q9 ?_|refine q8 ?_|refine zne g6 rfl rfl rfl ?_))
 refine z8 rfl (fun hc=>?_) (fun hc=>?_)
 ·(simp only[↓cdL] at hc;try simp only[Ty.dflt,Int.toNat_natCast] at hc)
  have hi':i<xs.length:=by omega
  have hx:=h (xs.getD i 0) (by rw[j6 xs hi'];exact List.getElem_mem hi')
  (repeat (first|refine zs rfl ?_|refine zg rfl rfl rfl ?_|refine zd ?_|refine q9 ?_|refine q8 ?_|refine zne g6 rfl rfl rfl ?_|refine zc rfl (hx) rfl rfl ?_|refine ze rfl (hx) rfl ?_|refine zk rfl rfl (fun _=>hx) rfl rfl ?_))
  refine z8 rfl (fun hd=>?_) (fun hd=>?_)
  ·(repeat (first|refine zs rfl ?_|refine zg rfl rfl rfl ?_|refine zd ?_|refine q9 ?_|refine q8 ?_|refine zne g6 rfl rfl rfl ?_))
   refine⟨.inl rfl,_,_,rfl,trivial,?_⟩
   rw[j6 xs hi'] at hd
   rw[hn,List.drop_eq_getElem_cons hi',idxB,if_pos hd]
  ·(repeat (first|refine zs rfl ?_|refine zg rfl rfl rfl ?_|refine zd ?_|refine q9 ?_|refine q8 ?_|refine zne g6 rfl rfl rfl ?_))
   rw[j6 xs hi'] at hd
   refine⟨i+1,by(exact z7 (by conv=>lhs;reduce)),⟨by omega,?_⟩,by omega⟩
   rw[hn,List.drop_eq_getElem_cons hi',idxB,if_neg (by rw[hd];simp)]
 ·(simp only[↓cdL] at hc;try simp only[Ty.dflt,Int.toNat_natCast] at hc)
  (repeat (first|refine zs rfl ?_|refine zg rfl rfl rfl ?_|refine zd ?_|refine q9 ?_|refine q8 ?_|refine zne g6 rfl rfl rfl ?_))
  refine⟨.inl rfl,_,_,rfl,trivial,?_⟩
  obtain rfl:i=xs.length:=by omega
  rw[hn,List.drop_length];rfl
theorem fn39b{f:FuncId}{t1 t2:Ty}{x1:t1.den}{x2:t2.den}(xs:List Int)(p:Int→Bool)(h:∀ x∈xs,Ox.Fn Tryz.prog f (.acons (vI x) (.acons (.val t1 x1) (.acons (.val t2 x2) .anil))) (·=vB (p x))) :
  Ox.Fn Tryz.prog 39 (.acons (vL xs) (.acons (.fn f .anil (.acons (.val t1 x1) (.acons (.val t2 x2) .anil))) .anil)) (·=vB (xs.any p)):=by
 refine Ox.Fn.intro xok Tryz.func39 rfl Tryz.call39 (Nat.le_of_ble_eq_true rfl) (fun E M0 up=>?_)
 refine j4 ?_
 (repeat (first|refine zs rfl ?_|refine zg rfl rfl rfl ?_|refine zd ?_|refine q9 ?_|refine q8 ?_|refine zne g6 rfl rfl rfl ?_|refine zc rfl (fn78b xs p h) rfl rfl ?_|refine ze rfl (fn78b xs p h) rfl ?_|refine zk rfl rfl (fun _=>fn78b xs p h) rfl rfl ?_))
 refine⟨.inl rfl,_,_,rfl,trivial,?_⟩
 refine congrArg vB ?_
 rw[Bool.eq_iff_iff,← r7 (p:=p) (i:=0)]
 simp
theorem fn131(lo hi:Int)(xs:List Int):Ox.Fn Tryz.prog 131 (.acons (vI lo) (.acons (vI hi) (.acons (vL xs) .anil))) (·=vB (decide (∀ x∈xs,lo≤x∧x≤hi))):=by
 refine Ox.Fn.intro xok Tryz.func131 rfl Tryz.call131 (Nat.le_of_ble_eq_true rfl) (fun E M0 up=>?_)
 refine j4 ?_
 (repeat (first|refine zs rfl ?_|refine zg rfl rfl rfl ?_|refine zd ?_|refine q9 ?_|refine q8 ?_|refine zne g6 rfl rfl rfl ?_|refine zc rfl (fn39b xs (fun x=>decide (x<lo∨x>hi)) (fun x _=>fn205 x lo hi)) rfl rfl ?_|refine ze rfl (fn39b xs (fun x=>decide (x<lo∨x>hi)) (fun x _=>fn205 x lo hi)) rfl ?_|refine zk rfl rfl (fun _=>fn39b xs (fun x=>decide (x<lo∨x>hi)) (fun x _=>fn205 x lo hi)) rfl rfl ?_))
 refine⟨.inl rfl,_,_,rfl,trivial,?_⟩
 refine congrArg vB ?_
 rw[Bool.eq_iff_iff]
 simp only[Bool.not_eq_true',List.any_eq_false,decide_eq_true_eq]
 refine⟨fun h x hx=>?_,fun h x hx=>?_⟩
 ·have:=h x hx;omega
 ·have:=h x hx;omega
theorem fn244(ps:List (List Int))(p:List Int):Ox.Fn Tryz.prog 244 (.acons (.val (.slice prT) ps) (.acons (vPr p) .anil)) (·=vI (idxB (fun q=>prT.eqB p q) ps 0)):=by
 refine Ox.Fn.intro xok Tryz.func244 rfl Tryz.call244 (Nat.le_of_ble_eq_true rfl) (fun E M0 up=>?_)
 refine j4 ?_
 refine JK.lenOf 0 rfl fun hlen=>?_
 replace hlen:ps.length≤9223372036854775807:=hlen.1
 (repeat (first|refine zs rfl ?_|refine zg rfl rfl rfl ?_|refine zd ?_|refine q9 ?_|refine q8 ?_|refine zne g6 rfl rfl rfl ?_))
 refine JK.loop (fun i:Nat=>⟨[(0,.val (.slice prT) ps),(3,.lf (.optr 0 [])),(7,vI ps.length),(8,vI (i:Int))],[(0,.cell prT (vPr p))],1⟩) (fun i=>i≤ps.length∧idxB (fun q=>prT.eqB p q) ps 0=idxB (fun q=>prT.eqB p q) (ps.drop i) i) (fun i=>ps.length-i) 0 (by simp) (by(exact z7 (by conv=>lhs;reduce))) fun i ⟨hi,hn⟩=>?_
 (repeat (first|refine zs rfl ?_|refine zg rfl rfl rfl ?_|refine zd ?_|refine q9 ?_|refine q8 ?_|refine zne g6 rfl rfl rfl ?_))
 refine z8 rfl (fun hc=>?_) (fun hc=>?_)
 ·(simp only[↓cdL] at hc;try simp only[Ty.dflt,Int.toNat_natCast] at hc)
  have hi':i<ps.length:=by omega
  (repeat (first|refine zs rfl ?_|refine zg rfl rfl rfl ?_|refine q9 ?_|refine q8 ?_|refine zne g6 rfl rfl rfl ?_))
  refine s8 xk (Tryz.f244.body.getD .skip) ⟨[(0,.val (.slice prT) ps),(3,.lf (.optr 0 [])),(5,vI (i:Int)),(7,vI ps.length),(8,vI (i:Int)),(16,vB (prT.eqB p (ps.getD i prT.dflt)))],[(0,.cell prT (vPr p))],1⟩ rfl 6 rfl ?_ ?_
  ·(refine z5 1 xk rfl rfl ?_;refine z5 2 xk rfl rfl ?_;refine z5 3 xk rfl rfl ?_;refine z9 0 xk rfl rfl ?_;refine z9 4 xk rfl rfl ?_;refine j3 5 [] xk ?_ ?_;(focus (repeat (first|exact StF.nil|refine j7 rfl rfl rfl ?_)));refine(BrF.one rfl rfl ?_ BrF.nil);(· (first|refine x8 xk rfl rfl rfl ?_|refine d9 xk rfl rfl ?_|refine JL.M0 xk rfl ?_|refine g8 g6 rfl rfl rfl ?_);refine j8 ?_;refine y9 xk StF.nil ?_;((exact z7 (by conv=>lhs;reduce)))))
  rw[j6 ps hi']
  (repeat (first|refine zs rfl ?_|refine zg rfl rfl rfl ?_|refine zd ?_|refine q9 ?_|refine q8 ?_|refine zne g6 rfl rfl rfl ?_))
  refine z8 rfl (fun hd=>?_) (fun hd=>?_)
  ·(repeat (first|refine zs rfl ?_|refine zg rfl rfl rfl ?_|refine zd ?_|refine q9 ?_|refine q8 ?_|refine zne g6 rfl rfl rfl ?_))
   refine⟨.inl rfl,_,_,rfl,trivial,?_⟩
   rw[hn,List.drop_eq_getElem_cons hi',idxB,if_pos hd]
  ·(repeat (first|refine zs rfl ?_|refine zg rfl rfl rfl ?_|refine zd ?_|refine q9 ?_|refine q8 ?_|refine zne g6 rfl rfl rfl ?_))
   refine⟨i+1,by(exact z7 (by conv=>lhs;reduce)),⟨by omega,?_⟩,by omega⟩
   rw[hn,List.drop_eq_getElem_cons hi',idxB,if_neg (by rw[hd];simp)]
 ·(simp only[↓cdL] at hc;try simp only[Ty.dflt,Int.toNat_natCast] at hc)
  (repeat (first|refine zs rfl ?_|refine zg rfl rfl rfl ?_|refine zd ?_|refine q9 ?_|refine q8 ?_|refine zne g6 rfl rfl rfl ?_))
  refine⟨.inl rfl,_,_,rfl,trivial,?_⟩
  obtain rfl:i=ps.length:=by omega
  rw[hn,List.drop_length];rfl
theorem fn204(ps:List (List Int))(p:List Int):Ox.Fn Tryz.prog 204 (.acons (.val (.slice prT) ps) (.acons (vPr p) .anil)) (·=vB (decide (p∈ps))):=by
 refine Ox.Fn.intro xok Tryz.func204 rfl Tryz.call204 (Nat.le_of_ble_eq_true rfl) (fun E M0 up=>?_)
 refine j4 ?_
 (repeat (first|refine zs rfl ?_|refine zg rfl rfl rfl ?_|refine zd ?_|refine q9 ?_|refine q8 ?_|refine zne g6 rfl rfl rfl ?_|refine zc rfl (fn244 ps p) rfl rfl ?_|refine ze rfl (fn244 ps p) rfl ?_|refine zk rfl rfl (fun _=>fn244 ps p) rfl rfl ?_))
 refine⟨.inl rfl,_,_,rfl,trivial,?_⟩
 refine congrArg vB ?_
 rw[Bool.eq_iff_iff]
 simp only[decide_eq_true_eq]
 refine(r7 (p:=fun q=>prT.eqB p q) (i:=0)).trans ?_
 rw[List.any_eq_true]
 refine⟨fun⟨x,h1,h2⟩=>?_,fun h=>⟨p,h,x3.2 rfl⟩⟩
 rw[x3.1 h2];exact h1
abbrev p0(p:List Int):Int:=p.getD 0 0
abbrev p1(p:List Int):Int:=p.getD 1 0
def badP(n:Int)(ps:List (List Int))(i:Nat):Bool:=let p:=ps.getD i prT.dflt;decide (p0 p<0∨p1 p ≥ n∨p0 p ≥ p1 p∨p∈ps.take i)
def benE(n:Int)(ps:List (List Int)):Int:=if ¬ (1≤n∧n≤8)∨ps.length>28 then 6 else if (List.range ps.length).any (badP n ps)=true then 2 else 0
theorem fn130(n:Int)(ps:List (List Int)):Ox.Fn Tryz.prog 130 (.acons (vBe n ps) .anil) (·=vI (benE n ps)):=by
 refine Ox.Fn.intro xok Tryz.func130 rfl Tryz.call130 (Nat.le_of_ble_eq_true rfl) (fun E M0 up=>?_)
 refine j4 ?_
 have h1:=fn131 1 8 (n::List.nil)
 have e1:(∀ x∈[n],1≤x∧x≤8)↔(1≤n∧n≤8):=by simp
 rw[decide_eq_decide.2 e1] at h1
 (repeat (first|refine zs rfl ?_|refine zg rfl rfl rfl ?_|refine zd ?_|refine q9 ?_|refine q8 ?_|refine zne g6 rfl rfl rfl ?_|refine zc rfl (h1) rfl rfl ?_|refine ze rfl (h1) rfl ?_|refine zk rfl rfl (fun _=>h1) rfl rfl ?_))
 refine z8 rfl (fun hc=>?_) (fun hc=>?_)
 ·(repeat (first|refine zs rfl ?_|refine zg rfl rfl rfl ?_|refine zd ?_|refine q9 ?_|refine q8 ?_|refine zne g6 rfl rfl rfl ?_))
  refine⟨.inl rfl,_,_,rfl,trivial,?_⟩
  refine congrArg vI ?_
  unfold benE
  rw[if_pos ?_]
  by_cases c1:1≤n∧n≤8
  ·rw[decide_eq_true c1] at hc
   have h2:(28:Int)<ps.length:=by simpa using hc
   right;omega
  ·exact .inl c1
 have hb:(1≤n∧n≤8)∧ps.length≤28:=by
  by_cases c1:1≤n∧n≤8
  ·rw[decide_eq_true c1] at hc
   have h2:(ps.length:Int)≤28:=by simpa using hc
   exact⟨c1,by omega⟩
  ·rw[decide_eq_false c1] at hc
   simp at hc
 clear hc h1 e1
 obtain⟨⟨b1,b2⟩,b3⟩:=hb
 have hE:benE n ps=if (List.range ps.length).any (badP n ps)=true then 2 else 0:=by unfold benE;rw[if_neg (by omega)]
 (repeat (first|refine zs rfl ?_|refine zg rfl rfl rfl ?_|refine zd ?_|refine q9 ?_|refine q8 ?_|refine zne g6 rfl rfl rfl ?_))
 refine JK.loop (fun i:Nat=>⟨[(1,.lf (.optr 0 [])),(17,.val (.slice prT) ps),(18,vI ps.length),(19,vI (i:Int))],[(0,.cell beT (vBe n ps))],1⟩) (fun i=>i≤ps.length∧∀ j,j<i→badP n ps j=false) (fun i=>ps.length-i) 0 ⟨Nat.zero_le _,fun j h=>absurd h (Nat.not_lt_zero j)⟩ (by(exact z7 (by conv=>lhs;reduce))) fun i ⟨hi,hn⟩=>?_
 (repeat (first|refine zs rfl ?_|refine zg rfl rfl rfl ?_|refine zd ?_|refine q9 ?_|refine q8 ?_|refine zne g6 rfl rfl rfl ?_))
 refine z8 rfl (fun hc=>?_) (fun hc=>?_)
 ·(simp only[↓cdL] at hc;try simp only[Ty.dflt,Int.toNat_natCast] at hc)
  have hi':i<ps.length:=by omega
  have hz:ps.getD (Int.toNat (i:Int)) prT.dflt=ps.getD i prT.dflt:=rfl
  (repeat (first|refine zs rfl ?_|refine zg rfl rfl rfl ?_|refine q9 ?_|refine q8 ?_|refine zne g6 rfl rfl rfl ?_))
  rw[hz]
  have hbad:badP n ps i=decide (p0 (ps.getD i prT.dflt)<0∨p1 (ps.getD i prT.dflt) ≥ n∨p0 (ps.getD i prT.dflt) ≥ p1 (ps.getD i prT.dflt)∨ps.getD i prT.dflt∈ps.take i):=rfl
  have h1:=fn131 0 (n-1) (p0 (ps.getD i prT.dflt)::p1 (ps.getD i prT.dflt)::List.nil)
  have h2:=fn204 (ps.take i) (ps.getD i prT.dflt)
  generalize ps.getD i prT.dflt=p at hbad h1 h2 ⊢
  have hil:(0:Int)≤i∧(i:Int)≤ps.length:=by omega
  refine s8 xk (Tryz.f130.body.getD .skip) ⟨[(1,.lf (.optr 0 [])),(17,.val (.slice prT) ps),(18,vI ps.length),(19,vI (i:Int)),(48,vB (bif bif !decide (∀ x∈[p0 p,p1 p],0≤x∧x≤n-1) then true else decide (p1 p≤p0 p) then true else decide (p∈ps.take i)))],[(0,.cell beT (vBe n ps))],1⟩ rfl 25 rfl ?_ ?_
  ·(refine z5 0 xk rfl rfl ?_;refine z5 3 xk rfl rfl ?_;refine z5 5 xk rfl rfl ?_;refine z9 1 xk rfl rfl ?_;refine z9 2 xk rfl rfl ?_;refine z9 4 xk rfl rfl ?_;refine z9 6 xk rfl rfl ?_;refine j3 7 [] xk ?_ ?_;(focus (repeat (first|exact StF.nil|refine j7 rfl rfl rfl ?_)));refine(BrF.one rfl rfl ?_ BrF.nil);(· (first|refine x8 xk rfl rfl rfl ?_|refine d9 xk rfl rfl ?_|refine JL.M0 xk rfl ?_|refine g8 g6 rfl rfl rfl ?_|refine p9 rfl (h1) rfl trivial rfl ?_|refine y5 rfl rfl (fun hgd=>h1) rfl trivial rfl ?_|refine p9 rfl (h2) rfl trivial rfl ?_|refine y5 rfl rfl (fun hgd=>h2) rfl trivial rfl ?_);refine j8 ?_;refine j3 8 [] xk ?_ ?_;(focus (repeat (first|exact StF.nil|refine j7 rfl rfl rfl ?_)));refine(BrF.one rfl rfl ?_ BrF.nil);(· (first|refine x8 xk rfl rfl rfl ?_|refine d9 xk rfl rfl ?_|refine JL.M0 xk rfl ?_|refine g8 g6 rfl rfl rfl ?_|refine p9 rfl (h1) rfl trivial rfl ?_|refine y5 rfl rfl (fun hgd=>h1) rfl trivial rfl ?_|refine p9 rfl (h2) rfl trivial rfl ?_|refine y5 rfl rfl (fun hgd=>h2) rfl trivial rfl ?_);refine j8 ?_;refine z5 9 xk rfl rfl ?_;refine z5 10 xk rfl rfl ?_;refine w5 11 xk rfl rfl rfl ?_;refine w5 13 xk rfl rfl rfl ?_;refine j3 12 [14] xk ?_ ?_;(focus (repeat (first|exact StF.nil|refine j7 rfl rfl rfl ?_)));refine(BrF.one rfl rfl ?_ (BrF.one rfl rfl ?_ BrF.nil));(· (first|refine x8 xk rfl rfl rfl ?_|refine d9 xk rfl rfl ?_|refine JL.M0 xk rfl ?_|refine g8 g6 rfl rfl rfl ?_|refine p9 rfl (h1) rfl trivial rfl ?_|refine y5 rfl rfl (fun hgd=>h1) rfl trivial rfl ?_|refine p9 rfl (h2) rfl trivial rfl ?_|refine y5 rfl rfl (fun hgd=>h2) rfl trivial rfl ?_);refine j8 ?_;refine j3 14 [] xk ?_ ?_;(focus (repeat (first|exact StF.nil|refine j7 rfl rfl rfl ?_)));refine(BrF.one rfl rfl ?_ BrF.nil);(· (first|refine x8 xk rfl rfl rfl ?_|refine d9 xk rfl rfl ?_|refine JL.M0 xk rfl ?_|refine g8 g6 rfl rfl rfl ?_|refine p9 rfl (h1) rfl trivial rfl ?_|refine y5 rfl rfl (fun hgd=>h1) rfl trivial rfl ?_|refine p9 rfl (h2) rfl trivial rfl ?_|refine y5 rfl rfl (fun hgd=>h2) rfl trivial rfl ?_);refine j8 ?_;refine w5 15 xk rfl rfl rfl ?_;refine z5 16 xk rfl rfl ?_;refine z5 17 xk rfl rfl ?_;refine w5 18 xk rfl rfl rfl ?_;refine w5 20 xk rfl rfl rfl ?_;refine j3 19 [22] xk ?_ ?_;(focus (repeat (first|exact StF.nil|refine j7 rfl rfl rfl ?_)));refine(BrF.one rfl rfl ?_ (BrF.one rfl rfl ?_ BrF.nil));(· (first|refine x8 xk rfl rfl rfl ?_|refine d9 xk rfl rfl ?_|refine JL.M0 xk rfl ?_|refine g8 g6 rfl rfl rfl ?_|refine p9 rfl (h1) rfl trivial rfl ?_|refine y5 rfl rfl (fun hgd=>h1) rfl trivial rfl ?_|refine p9 rfl (h2) rfl trivial rfl ?_|refine y5 rfl rfl (fun hgd=>h2) rfl trivial rfl ?_);refine j8 ?_;refine w5 21 xk rfl rfl rfl ?_;refine j3 22 [] xk ?_ ?_;(focus (repeat (first|exact StF.nil|refine j7 rfl rfl rfl ?_)));refine(BrF.one rfl rfl ?_ BrF.nil);(· (first|refine x8 xk rfl rfl rfl ?_|refine d9 xk rfl rfl ?_|refine JL.M0 xk rfl ?_|refine g8 g6 rfl rfl rfl ?_|refine p9 rfl (h1) rfl trivial rfl ?_|refine y5 rfl rfl (fun hgd=>h1) rfl trivial rfl ?_|refine p9 rfl (h2) rfl trivial rfl ?_|refine y5 rfl rfl (fun hgd=>h2) rfl trivial rfl ?_);refine j8 ?_;refine j3 23 [] xk ?_ ?_;(focus (repeat (first|exact StF.nil|refine j7 rfl rfl rfl ?_)));refine(BrF.one rfl rfl ?_ BrF.nil);(· (first|refine x8 xk rfl rfl rfl ?_|refine d9 xk rfl rfl ?_|refine JL.M0 xk rfl ?_|refine g8 g6 rfl rfl rfl ?_|refine p9 rfl (h1) rfl trivial rfl ?_|refine y5 rfl rfl (fun hgd=>h1) rfl trivial rfl ?_|refine p9 rfl (h2) rfl trivial rfl ?_|refine y5 rfl rfl (fun hgd=>h2) rfl trivial rfl ?_);refine j8 ?_;refine z5 24 xk rfl rfl ?_;refine y9 xk ?_ ?_;(focus (repeat (first|exact StF.nil|refine j7 rfl rfl rfl ?_)));((exact z7 (by conv=>lhs;reduce))))));(· (first|refine x8 xk rfl rfl rfl ?_|refine d9 xk rfl rfl ?_|refine JL.M0 xk rfl ?_|refine g8 g6 rfl rfl rfl ?_|refine p9 rfl (h1) rfl trivial rfl ?_|refine y5 rfl rfl (fun hgd=>h1) rfl trivial rfl ?_|refine p9 rfl (h2) rfl trivial rfl ?_|refine y5 rfl rfl (fun hgd=>h2) rfl trivial rfl ?_);refine j8 ?_;refine j3 19 [] xk ?_ ?_;(focus (repeat (first|exact StF.nil|refine j7 rfl rfl rfl ?_)));refine(BrF.one rfl rfl ?_ BrF.nil);(· (first|refine x8 xk rfl rfl rfl ?_|refine d9 xk rfl rfl ?_|refine JL.M0 xk rfl ?_|refine g8 g6 rfl rfl rfl ?_|refine p9 rfl (h1) rfl trivial rfl ?_|refine y5 rfl rfl (fun hgd=>h1) rfl trivial rfl ?_|refine p9 rfl (h2) rfl trivial rfl ?_|refine y5 rfl rfl (fun hgd=>h2) rfl trivial rfl ?_);refine j8 ?_;refine w5 21 xk rfl rfl rfl ?_;refine j3 23 [] xk ?_ ?_;(focus (repeat (first|exact StF.nil|refine j7 rfl rfl rfl ?_)));refine(BrF.one rfl rfl ?_ BrF.nil);(· (first|refine x8 xk rfl rfl rfl ?_|refine d9 xk rfl rfl ?_|refine JL.M0 xk rfl ?_|refine g8 g6 rfl rfl rfl ?_|refine p9 rfl (h1) rfl trivial rfl ?_|refine y5 rfl rfl (fun hgd=>h1) rfl trivial rfl ?_|refine p9 rfl (h2) rfl trivial rfl ?_|refine y5 rfl rfl (fun hgd=>h2) rfl trivial rfl ?_);refine j8 ?_;refine z5 24 xk rfl rfl ?_;refine y9 xk ?_ ?_;(focus (repeat (first|exact StF.nil|refine j7 rfl rfl rfl ?_)));((exact z7 (by conv=>lhs;reduce))))))));(· (first|refine x8 xk rfl rfl rfl ?_|refine d9 xk rfl rfl ?_|refine JL.M0 xk rfl ?_|refine g8 g6 rfl rfl rfl ?_|refine p9 rfl (h1) rfl trivial rfl ?_|refine y5 rfl rfl (fun hgd=>h1) rfl trivial rfl ?_|refine p9 rfl (h2) rfl trivial rfl ?_|refine y5 rfl rfl (fun hgd=>h2) rfl trivial rfl ?_);refine j8 ?_;refine j3 12 [] xk ?_ ?_;(focus (repeat (first|exact StF.nil|refine j7 rfl rfl rfl ?_)));refine(BrF.one rfl rfl ?_ BrF.nil);(· (first|refine x8 xk rfl rfl rfl ?_|refine d9 xk rfl rfl ?_|refine JL.M0 xk rfl ?_|refine g8 g6 rfl rfl rfl ?_|refine p9 rfl (h1) rfl trivial rfl ?_|refine y5 rfl rfl (fun hgd=>h1) rfl trivial rfl ?_|refine p9 rfl (h2) rfl trivial rfl ?_|refine y5 rfl rfl (fun hgd=>h2) rfl trivial rfl ?_);refine j8 ?_;refine w5 15 xk rfl rfl rfl ?_;refine z5 16 xk rfl rfl ?_;refine z5 17 xk rfl rfl ?_;refine w5 18 xk rfl rfl rfl ?_;refine w5 20 xk rfl rfl rfl ?_;refine j3 19 [22] xk ?_ ?_;(focus (repeat (first|exact StF.nil|refine j7 rfl rfl rfl ?_)));refine(BrF.one rfl rfl ?_ (BrF.one rfl rfl ?_ BrF.nil));(· (first|refine x8 xk rfl rfl rfl ?_|refine d9 xk rfl rfl ?_|refine JL.M0 xk rfl ?_|refine g8 g6 rfl rfl rfl ?_|refine p9 rfl (h1) rfl trivial rfl ?_|refine y5 rfl rfl (fun hgd=>h1) rfl trivial rfl ?_|refine p9 rfl (h2) rfl trivial rfl ?_|refine y5 rfl rfl (fun hgd=>h2) rfl trivial rfl ?_);refine j8 ?_;refine w5 21 xk rfl rfl rfl ?_;refine j3 22 [] xk ?_ ?_;(focus (repeat (first|exact StF.nil|refine j7 rfl rfl rfl ?_)));refine(BrF.one rfl rfl ?_ BrF.nil);(· (first|refine x8 xk rfl rfl rfl ?_|refine d9 xk rfl rfl ?_|refine JL.M0 xk rfl ?_|refine g8 g6 rfl rfl rfl ?_|refine p9 rfl (h1) rfl trivial rfl ?_|refine y5 rfl rfl (fun hgd=>h1) rfl trivial rfl ?_|refine p9 rfl (h2) rfl trivial rfl ?_|refine y5 rfl rfl (fun hgd=>h2) rfl trivial rfl ?_);refine j8 ?_;refine j3 23 [] xk ?_ ?_;(focus (repeat (first|exact StF.nil|refine j7 rfl rfl rfl ?_)));refine(BrF.one rfl rfl ?_ BrF.nil);(· (first|refine x8 xk rfl rfl rfl ?_|refine d9 xk rfl rfl ?_|refine JL.M0 xk rfl ?_|refine g8 g6 rfl rfl rfl ?_|refine p9 rfl (h1) rfl trivial rfl ?_|refine y5 rfl rfl (fun hgd=>h1) rfl trivial rfl ?_|refine p9 rfl (h2) rfl trivial rfl ?_|refine y5 rfl rfl (fun hgd=>h2) rfl trivial rfl ?_);refine j8 ?_;refine z5 24 xk rfl rfl ?_;refine y9 xk ?_ ?_;(focus (repeat (first|exact StF.nil|refine j7 rfl rfl rfl ?_)));((exact z7 (by conv=>lhs;reduce))))));(· (first|refine x8 xk rfl rfl rfl ?_|refine d9 xk rfl rfl ?_|refine JL.M0 xk rfl ?_|refine g8 g6 rfl rfl rfl ?_|refine p9 rfl (h1) rfl trivial rfl ?_|refine y5 rfl rfl (fun hgd=>h1) rfl trivial rfl ?_|refine p9 rfl (h2) rfl trivial rfl ?_|refine y5 rfl rfl (fun hgd=>h2) rfl trivial rfl ?_);refine j8 ?_;refine j3 19 [] xk ?_ ?_;(focus (repeat (first|exact StF.nil|refine j7 rfl rfl rfl ?_)));refine(BrF.one rfl rfl ?_ BrF.nil);(· (first|refine x8 xk rfl rfl rfl ?_|refine d9 xk rfl rfl ?_|refine JL.M0 xk rfl ?_|refine g8 g6 rfl rfl rfl ?_|refine p9 rfl (h1) rfl trivial rfl ?_|refine y5 rfl rfl (fun hgd=>h1) rfl trivial rfl ?_|refine p9 rfl (h2) rfl trivial rfl ?_|refine y5 rfl rfl (fun hgd=>h2) rfl trivial rfl ?_);refine j8 ?_;refine w5 21 xk rfl rfl rfl ?_;refine j3 23 [] xk ?_ ?_;(focus (repeat (first|exact StF.nil|refine j7 rfl rfl rfl ?_)));refine(BrF.one rfl rfl ?_ BrF.nil);(· (first|refine x8 xk rfl rfl rfl ?_|refine d9 xk rfl rfl ?_|refine JL.M0 xk rfl ?_|refine g8 g6 rfl rfl rfl ?_|refine p9 rfl (h1) rfl trivial rfl ?_|refine y5 rfl rfl (fun hgd=>h1) rfl trivial rfl ?_|refine p9 rfl (h2) rfl trivial rfl ?_|refine y5 rfl rfl (fun hgd=>h2) rfl trivial rfl ?_);refine j8 ?_;refine z5 24 xk rfl rfl ?_;refine y9 xk ?_ ?_;(focus (repeat (first|exact StF.nil|refine j7 rfl rfl rfl ?_)));((exact z7 (by conv=>lhs;reduce)))))))))))
  have hv:(bif bif !decide (∀ x∈[p0 p,p1 p],0≤x∧x≤n-1) then true else decide (p1 p≤p0 p) then true else decide (p∈ps.take i))=badP n ps i:=by
   rw[hbad,Bool.eq_iff_iff]
   by_cases hm:p∈ps.take i
   ·simp[hm]
   ·simp only[hm,bif_or,Bool.or_eq_true,Bool.not_eq_true',decide_eq_true_eq,decide_eq_false_iff_not,List.mem_cons,List.not_mem_nil,or_false,forall_eq_or_imp,forall_eq];omega
  rw[hv]
  refine z8 rfl (fun hd=>?_) (fun hd=>?_)
  ·(repeat (first|refine zs rfl ?_|refine zg rfl rfl rfl ?_|refine zd ?_|refine q9 ?_|refine q8 ?_|refine zne g6 rfl rfl rfl ?_))
   refine⟨.inl rfl,_,_,rfl,trivial,?_⟩
   refine congrArg vI ?_
   rw[hE,if_pos (List.any_eq_true.2 ⟨i,List.mem_range.2 hi',hd⟩)]
  ·(repeat (first|refine zs rfl ?_|refine zg rfl rfl rfl ?_|refine zd ?_|refine q9 ?_|refine q8 ?_|refine zne g6 rfl rfl rfl ?_))
   refine⟨i+1,by(exact z7 (by conv=>lhs;reduce)),⟨by omega,fun j hj=>?_⟩,by omega⟩
   rcases Nat.lt_succ_iff_lt_or_eq.1 hj with h|rfl
   ·exact hn j h
   ·exact hd
 ·(simp only[↓cdL] at hc;try simp only[Ty.dflt,Int.toNat_natCast] at hc)
  (repeat (first|refine zs rfl ?_|refine zg rfl rfl rfl ?_|refine zd ?_|refine q9 ?_|refine q8 ?_|refine zne g6 rfl rfl rfl ?_))
  refine⟨.inl rfl,_,_,rfl,trivial,?_⟩
  refine congrArg vI ?_
  rw[hE,if_neg]
  intro h
  rw[List.any_eq_true] at h
  obtain⟨j,h1,h2⟩:=h
  rw[hn j (by have:=List.mem_range.1 h1;omega)] at h2
  cases h2
def lstE(n:Int)(ps:List (List Int))(l:List Int):Int:=if benE n ps≠0 then benE n ps else if l.length>60 then 6 else if (∀ x∈l,0-n≤x∧x≤n)∧0∉l then 0 else 3
theorem fn61(n:Int)(ps:List (List Int))(l:List Int)(hnb:-1000≤n∧n≤1000):Ox.Fn Tryz.prog 61 (.acons (vBe n ps) (.acons (vL l) .anil)) (·=vI (lstE n ps l)):=by
 refine Ox.Fn.intro xok Tryz.func61 rfl Tryz.call61 (Nat.le_of_ble_eq_true rfl) (fun E M0 up=>?_)
 refine j4 ?_
 have hL:lstE n ps l=if benE n ps≠0 then benE n ps else if l.length>60 then 6 else if (∀ x∈l,0-n≤x∧x≤n)∧0∉l then 0 else 3:=rfl
 have h1:=fn130 n ps
 have h2:=fn131 (0-n) n l
 have h3:=fn132 l 0
 generalize benE n ps=e at hL h1
 (repeat (first|refine zs rfl ?_|refine zg rfl rfl rfl ?_|refine zd ?_|refine q9 ?_|refine q8 ?_|refine zne g6 rfl rfl rfl ?_|refine zc rfl (h1) rfl rfl ?_|refine ze rfl (h1) rfl ?_|refine zk rfl rfl (fun _=>h1) rfl rfl ?_))
 refine z8 rfl (fun hc=>?_) (fun hc=>?_)
 ·(simp only[↓cdL] at hc;try simp only[Ty.dflt,Int.toNat_natCast] at hc)
  (repeat (first|refine zs rfl ?_|refine zg rfl rfl rfl ?_|refine zd ?_|refine q9 ?_|refine q8 ?_|refine zne g6 rfl rfl rfl ?_))
  refine⟨.inl rfl,_,_,rfl,trivial,?_⟩
  rw[hL,if_pos hc]
 ·(simp only[↓cdL] at hc;try simp only[Ty.dflt,Int.toNat_natCast] at hc)
  rw[if_neg (by omega)] at hL
  (repeat (first|refine zs rfl ?_|refine zg rfl rfl rfl ?_|refine zd ?_|refine q9 ?_|refine q8 ?_|refine zne g6 rfl rfl rfl ?_))
  refine z8 rfl (fun hc=>?_) (fun hc=>?_)
  ·(simp only[↓cdL] at hc;try simp only[Ty.dflt,Int.toNat_natCast] at hc)
   (repeat (first|refine zs rfl ?_|refine zg rfl rfl rfl ?_|refine zd ?_|refine q9 ?_|refine q8 ?_|refine zne g6 rfl rfl rfl ?_))
   refine⟨.inl rfl,_,_,rfl,trivial,?_⟩
   rw[hL,if_pos (by omega)]
  ·(simp only[↓cdL] at hc;try simp only[Ty.dflt,Int.toNat_natCast] at hc)
   rw[if_neg (by omega)] at hL
   (repeat (first|refine zs rfl ?_|refine zg rfl rfl rfl ?_|refine zd ?_|refine q9 ?_|refine q8 ?_|refine zne g6 rfl rfl rfl ?_|refine zc rfl (h2) rfl rfl ?_|refine ze rfl (h2) rfl ?_|refine zk rfl rfl (fun _=>h2) rfl rfl ?_|refine zc rfl (h3) rfl rfl ?_|refine ze rfl (h3) rfl ?_|refine zk rfl rfl (fun _=>h3) rfl rfl ?_))
   refine z8 rfl (fun hc=>?_) (fun hc=>?_)
   ·(repeat (first|refine zs rfl ?_|refine zg rfl rfl rfl ?_|refine zd ?_|refine q9 ?_|refine q8 ?_|refine zne g6 rfl rfl rfl ?_))
    refine⟨.inl rfl,_,_,rfl,trivial,?_⟩
    refine congrArg vI ?_
    rw[hL,if_neg]
    intro⟨q1,q2⟩
    simp[q1,q2] at hc
    exact absurd q1 (by simpa using hc)
   ·(repeat (first|refine zs rfl ?_|refine zg rfl rfl rfl ?_|refine zd ?_|refine q9 ?_|refine q8 ?_|refine zne g6 rfl rfl rfl ?_))
    refine⟨.inl rfl,_,_,rfl,trivial,?_⟩
    refine congrArg vI ?_
    rw[hL,if_pos]
    simpa using hc
end Go.Proofs.YtjfafggkkjgpeaaGreatDoor
namespace Go.Proofs.YtjfafggkkjgpeaaGreatDoor
open Go Go.RowKit Ox Ox.Sh Ox.Se
attribute [local irreducible] JC JL JK JW
theorem fn42(n:Int)(ps:List (List Int)):Ox.Fn Tryz.prog 42 (.acons (vBe n ps) .anil) (·=vI (benE n ps)):=by
 refine Ox.Fn.intro xok Tryz.func42 rfl Tryz.call42 (Nat.le_of_ble_eq_true rfl) (fun E M0 up=>?_)
 refine j4 ?_
 (repeat (first|refine zs rfl ?_|refine zg rfl rfl rfl ?_|refine zd ?_|refine q9 ?_|refine q8 ?_|refine zne g6 rfl rfl rfl ?_))
 refine z8 rfl (fun hc=>?_) (fun hc=>?_)
 ·(repeat (first|refine zs rfl ?_|refine zg rfl rfl rfl ?_|refine zd ?_|refine q9 ?_|refine q8 ?_|refine zne g6 rfl rfl rfl ?_))
  refine⟨.inl rfl,_,_,rfl,trivial,?_⟩
  refine congrArg vI ?_
  unfold benE
  rw[if_pos ?_]
  by_cases c1:n<1<;>by_cases c2:n>8<;>simp[c1,c2] at hc<;>omega
 have hb:(1≤n∧n≤8)∧ps.length≤28:=by
  by_cases c1:n<1<;>by_cases c2:n>8<;>simp[c1,c2] at hc<;>omega
 clear hc
 obtain⟨⟨b1,b2⟩,b3⟩:=hb
 have hE:benE n ps=if (List.range ps.length).any (badP n ps)=true then 2 else 0:=by unfold benE;rw[if_neg (by omega)]
 (repeat (first|refine zs rfl ?_|refine zg rfl rfl rfl ?_|refine zd ?_|refine q9 ?_|refine q8 ?_|refine zne g6 rfl rfl rfl ?_))
 refine JK.loop (fun i:Nat=>⟨[(1,.lf (.optr 0 [])),(3,vI (i:Int))],[(0,.cell beT (vBe n ps))],1⟩) (fun i=>i≤ps.length∧∀ j,j<i→badP n ps j=false) (fun i=>ps.length-i) 0 ⟨Nat.zero_le _,fun j h=>absurd h (Nat.not_lt_zero j)⟩ (by(exact z7 (by conv=>lhs;reduce))) fun i ⟨hi,hn⟩=>?_
 (repeat (first|refine zs rfl ?_|refine zg rfl rfl rfl ?_|refine zd ?_|refine q9 ?_|refine q8 ?_|refine zne g6 rfl rfl rfl ?_))
 refine z8 rfl (fun hc=>?_) (fun hc=>?_)
 ·(simp only[↓cdL] at hc;try simp only[Ty.dflt,Int.toNat_natCast] at hc)
  have hi':i<ps.length:=by omega
  have hz:ps.getD (Int.toNat (i:Int)) prT.dflt=ps.getD i prT.dflt:=rfl
  (repeat (first|refine zs rfl ?_|refine zg rfl rfl rfl ?_|refine zd ?_|refine q9 ?_|refine q8 ?_|refine zne g6 rfl rfl rfl ?_))
  rw[hz]
  have hbad:badP n ps i=decide (p0 (ps.getD i prT.dflt)<0∨p1 (ps.getD i prT.dflt) ≥ n∨p0 (ps.getD i prT.dflt) ≥ p1 (ps.getD i prT.dflt)∨ps.getD i prT.dflt∈ps.take i):=rfl
  generalize ps.getD i prT.dflt=p at hbad ⊢
  refine z8 rfl (fun hd=>?_) (fun hd=>?_)
  ·(repeat (first|refine zs rfl ?_|refine zg rfl rfl rfl ?_|refine zd ?_|refine q9 ?_|refine q8 ?_|refine zne g6 rfl rfl rfl ?_))
   refine⟨.inl rfl,_,_,rfl,trivial,?_⟩
   refine congrArg vI ?_
   have hb1:badP n ps i=true:=by
    rw[hbad,decide_eq_true_eq]
    have h3:p.getD (Int.toNat 0) (Ty.int IntKind.i64).dflt=p0 p:=rfl
    have h4:p.getD (Int.toNat 1) (Ty.int IntKind.i64).dflt=p1 p:=rfl
    rw[h3,h4] at hd
    clear h3 h4
    generalize p0 p=u at hd ⊢
    generalize p1 p=v at hd ⊢
    by_cases c1:u<0
    ·exact .inl c1
    ·by_cases c2:u ≥ v
     ·exact .inr (.inr (.inl c2))
     ·simp[c1,c2] at hd
      exact .inr (.inl (by omega))
   rw[hE,if_pos (List.any_eq_true.2 ⟨i,List.mem_range.2 hi',hb1⟩)]
  ·have hb2:¬ p0 p<0∧¬ p0 p ≥ p1 p∧¬ p1 p ≥ n:=by
    have h3:p.getD (Int.toNat 0) (Ty.int IntKind.i64).dflt=p0 p:=rfl
    have h4:p.getD (Int.toNat 1) (Ty.int IntKind.i64).dflt=p1 p:=rfl
    rw[h3,h4] at hd
    clear h3 h4
    generalize p0 p=u at hd ⊢
    generalize p1 p=v at hd ⊢
    by_cases c1:u<0
    ·simp[c1] at hd
    ·by_cases c2:u ≥ v
     ·simp[c2] at hd
     ·simp[c1,c2] at hd
      exact⟨c1,c2,by omega⟩
   clear hd
   (repeat (first|refine zs rfl ?_|refine zg rfl rfl rfl ?_|refine zd ?_|refine q9 ?_|refine q8 ?_|refine zne g6 rfl rfl rfl ?_))
   refine JK.loop (fun k:Nat=>⟨[(1,.lf (.optr 0 [])),(3,vI (i:Int)),(4,.lf (.optr 1 [])),(5,vI (k:Int))],[(0,.cell beT (vBe n ps)),(1,.cell prT (vPr p))],2⟩) (fun k=>k≤i∧∀ j,j<k→ps.getD j prT.dflt≠p) (fun k=>i-k) 0 ⟨Nat.zero_le _,fun j h=>absurd h (Nat.not_lt_zero j)⟩ (by(exact z7 (by conv=>lhs;reduce))) fun k ⟨hk,hm⟩=>?_
   (repeat (first|refine zs rfl ?_|refine zg rfl rfl rfl ?_|refine zd ?_|refine q9 ?_|refine q8 ?_|refine zne g6 rfl rfl rfl ?_))
   refine z8 rfl (fun he=>?_) (fun he=>?_)
   ·(simp only[↓cdL] at he;try simp only[Ty.dflt,Int.toNat_natCast] at he)
    have hk':k<i:=by omega
    have hz:ps.getD (Int.toNat (k:Int)) prT.dflt=ps.getD k prT.dflt:=rfl
    (repeat (first|refine zs rfl ?_|refine zg rfl rfl rfl ?_|refine q9 ?_|refine q8 ?_|refine zne g6 rfl rfl rfl ?_))
    refine s8 xk (Tryz.f42.body.getD .skip) ⟨[(1,.lf (.optr 0 [])),(3,vI (i:Int)),(4,.lf (.optr 1 [])),(5,vI (k:Int)),(60,vB (prT.eqB (ps.getD k prT.dflt) p))],[(0,.cell beT (vBe n ps)),(1,.cell prT (vPr p))],2⟩ rfl 7 rfl ?_ ?_
    ·(refine z5 0 xk rfl rfl ?_;refine z5 2 xk rfl rfl ?_;refine z9 1 xk rfl rfl ?_;refine z9 3 xk rfl rfl ?_;refine z9 4 xk rfl rfl ?_;refine z9 5 xk rfl rfl ?_;refine j3 6 [] xk ?_ ?_;(focus (repeat (first|exact StF.nil|refine j7 rfl rfl rfl ?_)));refine(BrF.one rfl rfl ?_ BrF.nil);(· (first|refine x8 xk rfl rfl rfl ?_|refine d9 xk rfl rfl ?_|refine JL.M0 xk rfl ?_|refine g8 g6 rfl rfl rfl ?_);refine j8 ?_;refine y9 xk ?_ ?_;(focus (repeat (first|exact StF.nil|refine j7 rfl rfl rfl ?_)));((exact z7 (by conv=>lhs;reduce)))))
    refine z8 rfl (fun hd=>?_) (fun hd=>?_)
    ·(repeat (first|refine zs rfl ?_|refine zg rfl rfl rfl ?_|refine zd ?_|refine q9 ?_|refine q8 ?_|refine zne g6 rfl rfl rfl ?_))
     refine⟨.inl rfl,_,_,rfl,trivial,?_⟩
     refine congrArg vI ?_
     have hb1:badP n ps i=true:=by
      rw[hbad,decide_eq_true_eq]
      refine .inr (.inr (.inr ?_))
      rw[← x3.1 hd,j6 ps (by omega),List.mem_take_iff_getElem]
      exact⟨k,by omega,rfl⟩
     rw[hE,if_pos (List.any_eq_true.2 ⟨i,List.mem_range.2 hi',hb1⟩)]
    ·(repeat (first|refine zs rfl ?_|refine zg rfl rfl rfl ?_|refine zd ?_|refine q9 ?_|refine q8 ?_|refine zne g6 rfl rfl rfl ?_))
     refine⟨k+1,by(exact z7 (by conv=>lhs;reduce)),⟨by omega,fun j hj=>?_⟩,by omega⟩
     rcases Nat.lt_succ_iff_lt_or_eq.1 hj with h|rfl
     ·exact hm j h
     ·intro e
      rw[e,x3.2 rfl] at hd
      cases hd
   ·(simp only[↓cdL] at he;try simp only[Ty.dflt,Int.toNat_natCast] at he)
    have hki:k=i:=by omega
    (repeat (first|refine zs rfl ?_|refine zg rfl rfl rfl ?_|refine zd ?_|refine q9 ?_|refine q8 ?_|refine zne g6 rfl rfl rfl ?_))
    refine⟨i+1,by(exact z7 (by conv=>lhs;reduce)),⟨by omega,fun j hj=>?_⟩,by omega⟩
    rcases Nat.lt_succ_iff_lt_or_eq.1 hj with h|rfl
    ·exact hn j h
    ·rw[hbad,decide_eq_false_iff_not]
     rintro(h|h|h|h)
     ·exact hb2.1 h
     ·exact hb2.2.2 h
     ·exact hb2.2.1 h
     ·rw[List.mem_take_iff_getElem] at h
      obtain⟨q,h1,h2⟩:=h
      exact hm q (by omega) (by rw[j6 ps (by omega)];exact h2)
 ·(simp only[↓cdL] at hc;try simp only[Ty.dflt,Int.toNat_natCast] at hc)
  (repeat (first|refine zs rfl ?_|refine zg rfl rfl rfl ?_|refine zd ?_|refine q9 ?_|refine q8 ?_|refine zne g6 rfl rfl rfl ?_))
  refine⟨.inl rfl,_,_,rfl,trivial,?_⟩
  refine congrArg vI ?_
  rw[hE,if_neg]
  intro h
  rw[List.any_eq_true] at h
  obtain⟨j,h1,h2⟩:=h
  rw[hn j (by have:=List.mem_range.1 h1;omega)] at h2
  cases h2
theorem fn43(n:Int)(ps:List (List Int))(s:Int)(hn:1≤n∧n≤8):Ox.Fn Tryz.prog 43 (.acons (vBe n ps) (.acons (vI s) .anil)) (·=vB (decide ((0-n≤s∧s≤n)∧s≠0))):=by
 refine Ox.Fn.intro xok Tryz.func43 rfl Tryz.call43 (Nat.le_of_ble_eq_true rfl) (fun E M0 up=>?_)
 refine j4 ?_
 (repeat (first|refine zs rfl ?_|refine zg rfl rfl rfl ?_|refine zd ?_|refine q9 ?_|refine q8 ?_|refine zne g6 rfl rfl rfl ?_))
 refine⟨.inl rfl,_,_,rfl,trivial,?_⟩
 refine congrArg vB ?_
 rw[Bool.eq_iff_iff]
 by_cases h1:1≤s<;>by_cases h2:s≤n<;>by_cases h3:s≤-1<;>by_cases h4:0-n≤s<;>simp[h1,h2,h3]<;>omega
theorem fn20(n:Int)(ps:List (List Int))(l:List Int):Ox.Fn Tryz.prog 20 (.acons (vBe n ps) (.acons (vL l) .anil)) (·=vI (lstE n ps l)):=by
 refine Ox.Fn.intro xok Tryz.func20 rfl Tryz.call20 (Nat.le_of_ble_eq_true rfl) (fun E M0 up=>?_)
 refine j4 ?_
 refine JK.lenOf 1 rfl fun hlen=>?_
 replace hlen:l.length≤9223372036854775807:=hlen.1
 have hL:lstE n ps l=if benE n ps≠0 then benE n ps else if l.length>60 then 6 else if (∀ x∈l,0-n≤x∧x≤n)∧0∉l then 0 else 3:=rfl
 have hb:benE n ps=0→1≤n∧n≤8:=fun h=>by
  unfold benE at h
  split at h
  ·cases h
  ·omega
 have h1:=fn42 n ps
 generalize benE n ps=e at hL h1 hb
 (repeat (first|refine zs rfl ?_|refine zg rfl rfl rfl ?_|refine zd ?_|refine q9 ?_|refine q8 ?_|refine zne g6 rfl rfl rfl ?_|refine zc rfl (h1) rfl rfl ?_|refine ze rfl (h1) rfl ?_|refine zk rfl rfl (fun _=>h1) rfl rfl ?_))
 refine z8 rfl (fun hc=>?_) (fun hc=>?_)
 ·(simp only[↓cdL] at hc;try simp only[Ty.dflt,Int.toNat_natCast] at hc)
  (repeat (first|refine zs rfl ?_|refine zg rfl rfl rfl ?_|refine zd ?_|refine q9 ?_|refine q8 ?_|refine zne g6 rfl rfl rfl ?_|refine zc rfl (h1) rfl rfl ?_|refine ze rfl (h1) rfl ?_|refine zk rfl rfl (fun _=>h1) rfl rfl ?_))
  refine⟨.inl rfl,_,_,rfl,trivial,?_⟩
  rw[hL,if_pos hc]
 ·(simp only[↓cdL] at hc;try simp only[Ty.dflt,Int.toNat_natCast] at hc)
  rw[if_neg (by omega)] at hL
  have hn:=hb (by omega)
  (repeat (first|refine zs rfl ?_|refine zg rfl rfl rfl ?_|refine zd ?_|refine q9 ?_|refine q8 ?_|refine zne g6 rfl rfl rfl ?_))
  refine z8 rfl (fun hc=>?_) (fun hc=>?_)
  ·(simp only[↓cdL] at hc;try simp only[Ty.dflt,Int.toNat_natCast] at hc)
   (repeat (first|refine zs rfl ?_|refine zg rfl rfl rfl ?_|refine zd ?_|refine q9 ?_|refine q8 ?_|refine zne g6 rfl rfl rfl ?_))
   refine⟨.inl rfl,_,_,rfl,trivial,?_⟩
   rw[hL,if_pos (by omega)]
  ·(simp only[↓cdL] at hc;try simp only[Ty.dflt,Int.toNat_natCast] at hc)
   rw[if_neg (by omega)] at hL
   (repeat (first|refine zs rfl ?_|refine zg rfl rfl rfl ?_|refine zd ?_|refine q9 ?_|refine q8 ?_|refine zne g6 rfl rfl rfl ?_))
   refine JK.loop (fun i:Nat=>⟨[(1,vL l),(2,.lf (.optr 0 [])),(5,vI (i:Int))],[(0,.cell beT (vBe n ps))],1⟩) (fun i=>i≤l.length∧∀ x∈l.take i,(0-n≤x∧x≤n)∧x≠0) (fun i=>l.length-i) 0 ⟨Nat.zero_le _,by simp⟩ (by(exact z7 (by conv=>lhs;reduce))) fun i ⟨hi,hx⟩=>?_
   (repeat (first|refine zs rfl ?_|refine zg rfl rfl rfl ?_|refine zd ?_|refine q9 ?_|refine q8 ?_|refine zne g6 rfl rfl rfl ?_))
   refine z8 rfl (fun hc=>?_) (fun hc=>?_)
   ·(simp only[↓cdL] at hc;try simp only[Ty.dflt,Int.toNat_natCast] at hc)
    have hi':i<l.length:=by omega
    have hz:l.getD (Int.toNat (i:Int)) (Ty.int IntKind.i64).dflt=l[i]:=j6 l hi' _
    have h2:=fn43 n ps l[i] hn
    (repeat (first|refine zs rfl ?_|refine zg rfl rfl rfl ?_|refine q9 ?_|refine q8 ?_|refine zne g6 rfl rfl rfl ?_))
    refine s8 xk (Tryz.f20.body.getD .skip) ⟨[(1,vL l),(2,.lf (.optr 0 [])),(5,vI (i:Int)),(26,vB (!decide ((0-n≤l[i]∧l[i]≤n)∧l[i]≠0)))],[(0,.cell beT (vBe n ps))],1⟩ rfl 7 rfl ?_ ?_
    ·rw[← hz] at h2 ⊢
     (refine z5 1 xk rfl rfl ?_;refine z5 2 xk rfl rfl ?_;refine z5 3 xk rfl rfl ?_;refine z9 0 xk rfl rfl ?_;refine z9 4 xk rfl rfl ?_;refine j3 5 [] xk ?_ ?_;(focus (repeat (first|exact StF.nil|refine j7 rfl rfl rfl ?_)));refine(BrF.one rfl rfl ?_ BrF.nil);(· (first|refine x8 xk rfl rfl rfl ?_|refine d9 xk rfl rfl ?_|refine JL.M0 xk rfl ?_|refine g8 g6 rfl rfl rfl ?_|refine p9 rfl (h2) rfl trivial rfl ?_|refine y5 rfl rfl (fun hgd=>h2) rfl trivial rfl ?_);refine j8 ?_;refine z5 6 xk rfl rfl ?_;refine y9 xk StF.nil ?_;((exact z7 (by conv=>lhs;reduce)))))
    refine z8 rfl (fun hd=>?_) (fun hd=>?_)
    ·(repeat (first|refine zs rfl ?_|refine zg rfl rfl rfl ?_|refine zd ?_|refine q9 ?_|refine q8 ?_|refine zne g6 rfl rfl rfl ?_))
     refine⟨.inl rfl,_,_,rfl,trivial,?_⟩
     refine congrArg vI ?_
     rw[hL,if_neg]
     intro⟨q1,q2⟩
     rw[Bool.not_eq_true',decide_eq_false_iff_not] at hd
     exact hd ⟨q1 _ (List.getElem_mem _),fun e=>q2 (e▸List.getElem_mem _)⟩
    ·(repeat (first|refine zs rfl ?_|refine zg rfl rfl rfl ?_|refine zd ?_|refine q9 ?_|refine q8 ?_|refine zne g6 rfl rfl rfl ?_))
     refine⟨i+1,by(exact z7 (by conv=>lhs;reduce)),⟨by omega,fun x hm=>?_⟩,by omega⟩
     rw[List.take_succ_eq_append_getElem hi'] at hm
     rcases List.mem_append.1 hm with hm|hm
     ·exact hx x hm
     ·rw[List.mem_singleton.1 hm]
      simpa using hd
   ·(simp only[↓cdL] at hc;try simp only[Ty.dflt,Int.toNat_natCast] at hc)
    (repeat (first|refine zs rfl ?_|refine zg rfl rfl rfl ?_|refine zd ?_|refine q9 ?_|refine q8 ?_|refine zne g6 rfl rfl rfl ?_))
    refine⟨.inl rfl,_,_,rfl,trivial,?_⟩
    refine congrArg vI ?_
    have:i=l.length:=by omega
    rw[this,List.take_length] at hx
    rw[hL,if_pos ⟨fun x hm=>(hx x hm).1,fun h0=>(hx 0 h0).2 rfl⟩]
theorem fn5(n:Int)(ps:List (List Int))(l:List Int):Ox.Fn Tryz.prog 5 (.acons (vBe n ps) (.acons (vL l) .anil)) (·=vB (decide ((ps.length≤40∧l.length≤60)∧lstE n ps l=0))):=by
 refine Ox.Fn.intro xok Tryz.func5 rfl Tryz.call5 (Nat.le_of_ble_eq_true rfl) (fun E M0 up=>?_)
 refine j4 ?_
 refine JK.lenOf 1 rfl fun hlen=>?_
 replace hlen:l.length≤9223372036854775807:=hlen.1
 have h1:=fn20 n ps l
 generalize lstE n ps l=e at h1 ⊢
 (repeat (first|refine zs rfl ?_|refine zg rfl rfl rfl ?_|refine zd ?_|refine q9 ?_|refine q8 ?_|refine zne g6 rfl rfl rfl ?_|refine zc rfl (h1) rfl rfl ?_|refine ze rfl (h1) rfl ?_|refine zk rfl rfl (fun _=>h1) rfl rfl ?_))
 refine⟨.inl rfl,_,_,rfl,trivial,?_⟩
 refine congrArg vB ?_
 rw[Bool.eq_iff_iff]
 by_cases c1:ps.length≤40<;>by_cases c2:l.length≤60<;>simp[c1,c2]<;>omega
end Go.Proofs.YtjfafggkkjgpeaaGreatDoor
namespace Go.Proofs.YtjfafggkkjgpeaaGreatDoor
open Go Go.RowKit Ox Ox.Sh Ox.Se Ox.St
attribute [local irreducible] JC JL JK JW
abbrev rwT:Ty:=.arr 8 (.int .i64)
abbrev mxT:Ty:=.arr 8 rwT
abbrev tbT:Ty:=.cons beT (.cons mxT .nil)
def put2(C:List (List Int))(i j:Nat):List (List Int):=C.set i ((C.getD i rwT.dflt).set j 1)
def crM(ps:List (List Int)):List (List Int):=ps.foldl (fun C p=>put2 (put2 C (p0 p).toNat (p1 p).toNat) (p1 p).toNat (p0 p).toNat) mxT.dflt
def crAt(C:List (List Int))(i j:Nat):Int:=(C.getD i rwT.dflt).getD j 0
def mx8(C:List (List Int)):Prop:=C.length=8∧∀ i,i<8→(C.getD i rwT.dflt).length=8
theorem z0o{C:List (List Int)}(h:mx8 C)(i j:Nat)(hi:i<8):mx8 (put2 C i j):=by
 refine⟨by simp[put2,h.1],fun k hk=>?_⟩
 unfold put2
 rw[List.getD_eq_getElem?_getD,List.getElem?_set]
 by_cases e:i=k
 ·subst e;rw[if_pos rfl,if_pos (by rw[h.1];omega),Option.getD_some,List.length_set];exact h.2 i hi
 ·rw[if_neg e,← List.getD_eq_getElem?_getD];exact h.2 k hk
theorem z4t{C:List (List Int)}(h:mx8 C){i j:Nat}(hi:i<8)(hj:j<8)(a b:Nat):crAt (put2 C i j) a b=if i=a∧j=b then 1 else crAt C a b:=by
 unfold crAt put2
 rw[List.getD_eq_getElem?_getD (l:=C.set _ _),List.getElem?_set]
 by_cases e:i=a
 ·subst e
  rw[if_pos rfl,if_pos (by rw[h.1];exact hi),Option.getD_some,List.getD_eq_getElem?_getD,List.getElem?_set]
  by_cases e2:j=b
  ·subst e2;rw[if_pos rfl,if_pos (by rw[h.2 i hi];exact hj),if_pos ⟨rfl,rfl⟩];rfl
  ·rw[if_neg e2,if_neg (fun q=>e2 q.2),← List.getD_eq_getElem?_getD]
 ·rw[if_neg e,if_neg (fun q=>e q.1),← List.getD_eq_getElem?_getD]
def crs(ps:List (List Int))(a b:Nat):Bool:=ps.any fun p=>decide (((p0 p).toNat=a∧(p1 p).toNat=b)∨((p0 p).toNat=b∧(p1 p).toNat=a))
theorem q2h(ps:List (List Int))(a b:Nat):crs ps a b=crs ps b a:=by
 unfold crs
 congr 1;funext p
 rw[decide_eq_decide]
 exact Or.comm
theorem z2i:∀ (ps:List (List Int)),(∀ p∈ps,(p0 p).toNat<8∧(p1 p).toNat<8)→mx8 (crM ps)∧∀ a b,a<8→b<8→crAt (crM ps) a b=if crs ps a b=true then 1 else 0:=by
 have key:∀ (ps:List (List Int)) (C:List (List Int)),(∀ p∈ps,(p0 p).toNat<8∧(p1 p).toNat<8)→mx8 C→mx8 (ps.foldl (fun C p=>put2 (put2 C (p0 p).toNat (p1 p).toNat) (p1 p).toNat (p0 p).toNat) C) ∧
   ∀ a b,a<8→b<8→crAt (ps.foldl (fun C p=>put2 (put2 C (p0 p).toNat (p1 p).toNat) (p1 p).toNat (p0 p).toNat) C) a b=if crs ps a b=true then 1 else crAt C a b:=by
  intro ps
  induction ps with
  |nil=>exact fun C _ hC=>⟨hC,fun a b _ _=>by simp[crs]⟩
  |cons p ps ih=>
   intro C hp hC
   obtain⟨h1,h2⟩:=hp p List.mem_cons_self
   have hm:=z0o (z0o hC _ (p1 p).toNat h1) _ (p0 p).toNat h2
   obtain⟨i1,i2⟩:=ih _ (fun q hq=>hp q (List.mem_cons_of_mem _ hq)) hm
   refine⟨i1,fun a b ha hb=>?_⟩
   rw[List.foldl_cons,i2 a b ha hb,z4t (z0o hC _ _ h1) h2 h1,z4t hC h1 h2]
   have hcons:crs (p::ps) a b=(decide (((p0 p).toNat=a∧(p1 p).toNat=b)∨((p0 p).toNat=b∧(p1 p).toNat=a))||crs ps a b):=rfl
   rw[hcons]
   cases crs ps a b with
   |true=>simp
   |false=>
    have hcomm:((p1 p).toNat=a∧(p0 p).toNat=b)↔((p0 p).toNat=b∧(p1 p).toNat=a):=And.comm
    generalize (p0 p).toNat=u at *
    generalize (p1 p).toNat=v at *
    by_cases c2:u=b∧v=a<;>by_cases c3:u=a∧v=b<;>simp[c2,c3,hcomm]
 intro ps hp
 have hz:mx8 mxT.dflt:=⟨rfl,fun i hi=>(by decide:∀ i<8,(List.getD mxT.dflt i rwT.dflt).length=8) i hi⟩
 obtain⟨h1,h2⟩:=key ps _ hp hz
 refine⟨h1,fun a b ha hb=>?_⟩
 rw[show crM ps=ps.foldl _ mxT.dflt from rfl,h2 a b ha hb]
 rw[(by decide:∀ a<8,∀ b<8,crAt mxT.dflt a b=0) a ha b hb]
theorem crM_snoc(ps:List (List Int)){i:Nat}(h:i<ps.length):crM (ps.take (i+1))=put2 (put2 (crM (ps.take i)) (p0 (ps.getD i prT.dflt)).toNat (p1 (ps.getD i prT.dflt)).toNat) (p1 (ps.getD i prT.dflt)).toNat (p0 (ps.getD i prT.dflt)).toNat:=by
 unfold crM
 rw[List.take_succ_eq_append_getElem h,List.foldl_append,j6 ps h];rfl
theorem z2p{n:Int}{ps:List (List Int)}(h:benE n ps=0):(1≤n∧n≤8)∧ps.length≤28∧∀ i,i<ps.length→0≤p0 (ps.getD i prT.dflt)∧p0 (ps.getD i prT.dflt)<p1 (ps.getD i prT.dflt)∧p1 (ps.getD i prT.dflt)<n:=by
 unfold benE at h
 split at h
 ·cases h
 ·rename_i h1
  split at h
  ·cases h
  ·rename_i h2
   refine⟨by omega,by omega,fun i hi=>?_⟩
   have hb:badP n ps i=false:=by
    cases hb:badP n ps i with
    |false=>rfl
    |true=>exact absurd (List.any_eq_true.2 ⟨i,List.mem_range.2 hi,hb⟩) h2
   unfold badP at hb
   rw[decide_eq_false_iff_not] at hb
   generalize p0 (ps.getD i prT.dflt)=u at *
   generalize p1 (ps.getD i prT.dflt)=v at *
   omega
theorem ben_lt{n:Int}{ps:List (List Int)}(h:benE n ps=0):∀ p∈ps,(p0 p).toNat<8∧(p1 p).toNat<8:=fun p hp=>by
 obtain⟨h1,_,h2⟩:=z2p h
 obtain⟨i,hi,rfl⟩:=List.mem_iff_getElem.1 hp
 have:=h2 i hi
 rw[j6 ps hi] at this
 omega
abbrev tbV(n:Int)(ps:List (List Int)):tbT.den:=(mkB n ps,crM ps,())
abbrev vTb(n:Int)(ps:List (List Int)):AV:=.val (.ptr tbT) (some (tbV n ps))
theorem fn62(n:Int)(ps:List (List Int))(hb:benE n ps=0):Ox.Fn Tryz.prog 62 (.acons (vBe n ps) .anil) (·=vTb n ps):=by
 refine Ox.Fn.intro xok Tryz.func62 rfl Tryz.call62 (Nat.le_of_ble_eq_true rfl) (fun E M0 up=>?_)
 refine j4 ?_
 obtain⟨_,hb3,hb4⟩:=z2p hb
 (repeat (first|refine zs rfl ?_|refine zg rfl rfl rfl ?_|refine zd ?_|refine q9 ?_|refine q8 ?_))
 refine JK.loop (fun i:Nat=>⟨[(1,.lf (.optr 0 [])),(3,.lf (.optr 1 [])),(10,.val (.slice prT) ps),(11,vI ps.length),(12,vI (i:Int))],[(0,.cell beT (vBe n ps)),(1,.cell tbT (.val tbT (mkB n ps,crM (ps.take i),())))],2⟩) (fun i=>i≤ps.length) (fun i=>ps.length-i) 0 (Nat.zero_le _) (by(exact z7 (by conv=>lhs;reduce))) fun i hi=>?_
 have hsn:=crM_snoc ps (i:=i)
 have hb5:=hb4 i
 (repeat (first|refine zs rfl ?_|refine zg rfl rfl rfl ?_|refine zd ?_|refine q9 ?_|refine q8 ?_))
 refine z8 rfl (fun hc=>?_) (fun hc=>?_)
 ·(simp only[↓cdL] at hc;try simp only[Ty.dflt,Int.toNat_natCast] at hc)
  have hi':i<ps.length:=by omega
  have hz:ps.getD (Int.toNat (i:Int)) prT.dflt=ps.getD i prT.dflt:=rfl
  have hsn:=hsn hi'
  obtain⟨q1,q2,q3⟩:=hb5 hi'
  (repeat (first|refine zs rfl ?_|refine zg rfl rfl rfl ?_|refine q9 ?_|refine q8 ?_))
  rw[hz]
  generalize crM (ps.take i)=C at hsn ⊢
  generalize ps.getD i prT.dflt=p at hsn q1 q2 q3 ⊢
  have q4:0≤p.getD (Int.toNat 0) (Ty.int IntKind.i64).dflt∧p.getD (Int.toNat 0) (Ty.int IntKind.i64).dflt<8:=by
   show 0≤p0 p∧p0 p<8;omega
  have q5:0≤p.getD (Int.toNat 1) (Ty.int IntKind.i64).dflt∧p.getD (Int.toNat 1) (Ty.int IntKind.i64).dflt<8:=by
   show 0≤p1 p∧p1 p<8;omega
  refine q8n xk (Tryz.f62.body.getD .skip) ⟨[(1,.lf (.optr 0 [])),(3,.lf (.optr 1 [])),(10,.val (.slice prT) ps),(11,vI ps.length),(12,vI (i:Int))],[(0,.cell beT (vBe n ps)),(1,.cell tbT (.val tbT (mkB n ps,put2 (put2 C (p0 p).toNat (p1 p).toNat) (p1 p).toNat (p0 p).toNat,())))],2⟩ rfl 20 rfl ?_ ?_
  ·(refine z5 0 xk rfl rfl ?_;refine z5 1 xk rfl rfl ?_;refine z5 3 xk rfl rfl ?_;refine z5 5 xk rfl rfl ?_;refine z5 6 xk rfl rfl ?_;refine z5 8 xk rfl rfl ?_;refine z5 10 xk rfl rfl ?_;refine z5 11 xk rfl rfl ?_;refine z5 15 xk rfl rfl ?_;refine z5 16 xk rfl rfl ?_;refine z9 2 xk rfl rfl ?_;refine z9 4 xk rfl rfl ?_;refine z9 7 xk rfl rfl ?_;refine z9 9 xk rfl rfl ?_;refine z9 12 xk rfl rfl ?_;refine z9 13 xk rfl rfl ?_;refine z9 17 xk rfl rfl ?_;refine j3 14 [] xk ?_ ?_;(focus (repeat (first|exact StF.nil|refine j7 rfl rfl rfl ?_)));refine(BrF.one rfl rfl ?_ BrF.nil);(· (first|refine JL.M0 xk rfl ?_);refine j8 ?_;refine z9 18 xk rfl rfl ?_;refine j3 19 [] xk ?_ ?_;(focus (repeat (first|exact StF.nil|refine j7 rfl rfl rfl ?_)));refine(BrF.one rfl rfl ?_ BrF.nil);(· (first|refine JL.M0 xk rfl ?_);refine j8 ?_;refine y9 xk ?_ ?_;(focus (repeat (first|exact StF.nil|refine j7 rfl rfl rfl ?_)));((exact z7 (by conv=>lhs;reduce))))))
  rw[← hsn]
  (repeat (first|refine zs rfl ?_|refine zg rfl rfl rfl ?_|refine zd ?_|refine q9 ?_|refine q8 ?_))
  exact⟨i+1,by(exact z7 (by conv=>lhs;reduce)),by omega,by omega⟩
 ·(simp only[↓cdL] at hc;try simp only[Ty.dflt,Int.toNat_natCast] at hc)
  have:i=ps.length:=by omega
  rw[this,List.take_length]
  (refine JK.fz [1] [3] rfl ?_)
  (repeat (first|refine zs rfl ?_|refine zg rfl rfl rfl ?_|refine zd ?_|refine q9 ?_|refine q8 ?_))
  refine⟨.inl rfl,_,_,rfl,trivial,?_⟩
  rfl
abbrev vT2p(n:Int)(ps:List (List Int))(e:Int):AV:=.tup (.acons (vTb n ps) (.acons (vI e) .anil))
theorem q5x{n:Int}{ps:List (List Int)}{l:List Int}(h:lstE n ps l=0):benE n ps=0∧l.length≤60∧∀ x∈l,(0-n≤x∧x≤n)∧x≠0:=by
 unfold lstE at h
 split at h
 ·rename_i h1;exact absurd h h1
 ·rename_i h1
  split at h
  ·cases h
  ·split at h
   ·rename_i h3
    exact⟨Classical.not_not.1 h1,by omega,fun x hx=>⟨h3.1 x hx,fun e=>h3.2 (e▸hx)⟩⟩
   ·cases h
theorem fn27(n:Int)(ps:List (List Int))(LL:List (List Int))(hb:benE n ps=0)(hl:∀ l∈LL,lstE n ps l=0):Ox.Fn Tryz.prog 27 (.acons (vBe n ps) (.acons (vLL LL) .anil)) (·=vT2p n ps 0):=by
 refine Ox.Fn.intro xok Tryz.func27 rfl Tryz.call27 (Nat.le_of_ble_eq_true rfl) (fun E M0 up=>?_)
 refine j4 ?_
 refine JK.lenOf 1 rfl fun hlen=>?_
 replace hlen:LL.length≤9223372036854775807:=hlen.1
 have hn:=(z2p hb).1
 (repeat (first|refine zs rfl ?_|refine zg rfl rfl rfl ?_|refine zd ?_|refine q9 ?_|refine q8 ?_))
 refine JK.loop (fun i:Nat=>⟨[(2,.lf (.optr 0 [])),(9,vLL LL),(10,vI LL.length),(11,vI (i:Int))],[(0,.cell beT (vBe n ps))],1⟩) (fun i=>i≤LL.length) (fun i=>LL.length-i) 0 (Nat.zero_le _) (by(exact z7 (by conv=>lhs;reduce))) fun i hi=>?_
 have h62:=fn62 n ps hb
 (repeat (first|refine zs rfl ?_|refine zg rfl rfl rfl ?_|refine zd ?_|refine q9 ?_|refine q8 ?_))
 refine z8 rfl (fun hc=>?_) (fun hc=>?_)
 ·(simp only[↓cdL] at hc;try simp only[Ty.dflt,Int.toNat_natCast] at hc)
  have hi':i<LL.length:=by omega
  have h61:=fn61 n ps (LL.getD i []) (by omega)
  rw[hl _ (by rw[j6 LL hi'];exact List.getElem_mem hi')] at h61
  (repeat (first|refine zs rfl ?_|refine zg rfl rfl rfl ?_|refine zd ?_|refine q9 ?_|refine q8 ?_|refine zc rfl (h61) rfl rfl ?_|refine ze rfl (h61) rfl ?_|refine zk rfl rfl (fun _=>h61) rfl rfl ?_))
  refine z8 rfl (fun h=>absurd h (by decide)) (fun _=>?_)
  (repeat (first|refine zs rfl ?_|refine zg rfl rfl rfl ?_|refine zd ?_|refine q9 ?_|refine q8 ?_))
  exact⟨i+1,by(exact z7 (by conv=>lhs;reduce)),by omega,by omega⟩
 ·(repeat (first|refine zs rfl ?_|refine zg rfl rfl rfl ?_|refine zd ?_|refine q9 ?_|refine q8 ?_|refine zc rfl (h62) rfl rfl ?_|refine ze rfl (h62) rfl ?_|refine zk rfl rfl (fun _=>h62) rfl rfl ?_))
  refine⟨.inl rfl,_,_,rfl,trivial,?_⟩
  rfl
end Go.Proofs.YtjfafggkkjgpeaaGreatDoor
namespace Go.Proofs.YtjfafggkkjgpeaaGreatDoor
open Go Go.RowKit Ox Ox.Sh Ox.Se Ox.St
attribute [local irreducible] JC JL JK JW
abbrev rsT:Ty:=.arr 8 (.slice (.int .i64))
abbrev piT:Ty:=.cons (.ptr tbT) (.cons rsT .nil)
theorem fn135(s:Int)(h0:s≠0)(h:lnS s<8):Ox.Fn Tryz.prog 135 (.acons (vI s) .anil) (·=vI (lnS s:Nat)):=by
 refine Ox.Fn.intro xok Tryz.func135 rfl Tryz.call135 (Nat.le_of_ble_eq_true rfl) (fun E M0 up=>?_)
 refine j4 ?_
 unfold lnS at h
 (repeat (first|refine zs rfl ?_|refine zg rfl rfl rfl ?_|refine zd ?_|refine q9 ?_|refine q8 ?_))
 refine⟨.inl rfl,_,_,rfl,trivial,?_⟩
 refine congrArg vI ?_
 unfold lnS
 omega
theorem cdf{X:Ctx}{fn:Func}{c:Code}{Q:Exit→S→Prop}{s:S}(hb:fn.body=some c)(k:JK X [.code c] Q s):JK X [.code (fn.body.getD .skip)] Q s:=by rw[hb];exact k
theorem cdt{X:Ctx}{fn:Func}{c:Code}{Q:Exit→S→Prop}{s:S}(hb:fn.body=some c)(k:JK X [.code (fn.body.getD .skip)] Q s):JK X [.code c] Q s:=by rw[hb] at k;exact k
abbrev piV(n:Int)(ps:List (List Int)):AV:=
 .mix (vTb n ps) (.mix (.mix (.lf (.osl 1)) (.mix (.lf (.osl 2)) (.mix (.lf (.osl 3)) (.mix (.lf (.osl 4)) (.mix (.lf (.osl 5)) (.mix (.lf (.osl 6)) (.mix (.lf (.osl 7)) (.mix (.lf (.osl 8)) (.val (.arr 0 (.slice (.int .i64))) []))))))))) (.val .nil ()))
abbrev piH(n:Int)(ps:List (List Int))(R:Nat→List Int):List (Nat×HO):=
 [(0,.cell piT (piV n ps)),(1,.sl 3 (.int .i64) (R 0)),(2,.sl 3 (.int .i64) (R 1)),(3,.sl 3 (.int .i64) (R 2)),(4,.sl 3 (.int .i64) (R 3)),(5,.sl 3 (.int .i64) (R 4)),(6,.sl 3 (.int .i64) (R 5)),(7,.sl 3 (.int .i64) (R 6)),(8,.sl 3 (.int .i64) (R 7))]
abbrev fr63(l:List Int)(i:Nat):List (Nat×AV):=[(5,.lf (.optr 0 [])),(11,vL l),(12,vI l.length),(13,vI (i:Int))]
def updK(T:Nat→List Int)(k:Nat)(y:List Int):Nat→List Int:=fun j=>cond (Nat.beq j k) y (T j)
def layK(X:Nat→Nat→Bool)(R:Nat→List Int)(s:Int)(k:Nat):Nat→List Int:=fun j=>cond (Nat.blt j k) (layR X R s j) (R j)
theorem blt_d(a b:Nat):Nat.blt a b=decide (a<b):=by rw[Bool.eq_iff_iff,decide_eq_true_eq,Nat.blt_eq]
theorem beq_d(a b:Nat):Nat.beq a b=decide (a=b):=by rw[Bool.eq_iff_iff,decide_eq_true_eq,Nat.beq_eq]
theorem layK_at(X:Nat→Nat→Bool)(R:Nat→List Int)(s:Int)(k:Nat):layK X R s k k=R k:=by
 unfold layK;rw[blt_d];simp
theorem z6e(X:Nat→Nat→Bool)(R:Nat→List Int)(s:Int)(k:Nat):layK X R s (k+1)=updK (layK X R s k) k (layR X R s k):=by
 funext j
 unfold updK layK
 rw[blt_d,blt_d,beq_d]
 rcases Nat.lt_trichotomy j k with h|h|h
 ·have h1:¬ j=k:=by omega
  have h2:j<k+1:=by omega
  simp[h,h1,h2]
 ·subst h;simp
 ·have h1:¬ j=k:=by omega
  have h2:¬ j<k+1:=by omega
  have h3:¬ j<k:=by omega
  simp[h1,h2,h3]
def undB(R:Nat→List Int)(s:Int):Bool:=decide ((R (lnS s)).getLast?=some (-s))
set_option maxHeartbeats 8000000 in
theorem lay_in{n:Int}{ps:List (List Int)}(hb:benE n ps=0)(l:List Int)(i:Nat)(R:Nat→List Int)(s:Int)(h0:s≠0)(hs:lnS s<8)(hR:∀ k,(R k).length≤100)
  (hu:undB R s=true→∀ k,k<8→k=lnS s∨crs ps (lnS s) k=true→R k≠[])
  {E:World} {M0 M1 M2:Mem} {nn n1:Nat} {up up1 up2:Nat→Nat→Value} {K:AV→List (Nat×AV)→List (Nat×HO)→Nat→Prop} (hK:K (resV .anil) (fr63 l i) ((9,.fr 0 [])::piH n ps (layR (crs ps) R s)) 11) :
  JK (Ctx.sub (Ctx.sub ⟨Tryz.prog,tys,ets,mts,E,M0,nn,none,up,0⟩ M1 n1 none up1) M2 Tryz.f133.ntmps none up2) [.code (Tryz.f133.body.getD .skip)]
   (inlQ (Ctx.sub ⟨Tryz.prog,tys,ets,mts,E,M0,nn,none,up,0⟩ M1 n1 none up1) Tryz.f133.results.toList K) ⟨[(0,.lf (.optr 0 [])),(1,vI s)],(10,.fr 1 (fr63 l i))::(9,.fr 0 [])::piH n ps R,11⟩:=by
 have c135:=fn135 s h0 hs
 obtain⟨hm8,hcr⟩:=z2i ps (ben_lt hb)
 have hsb:-8≤s∧s≤8:=by unfold lnS at hs;omega
 refine cdf (fn:=Tryz.f133) rfl ?_
 refine zs rfl ?_
 refine zs rfl ?_
 refine zs rfl ?_
 refine zc rfl c135 rfl rfl ?_
 refine zs rfl ?_
 refine zs rfl ?_
 refine zs rfl ?_
 refine JK.cut (σ:=Unit) (fun _=>⟨[(0,.lf (.optr 0 [])),(1,vI s),(4,vI (lnS s:Nat)),(5,vI (R (lnS s)).length)],(10,.fr 1 (fr63 l i))::(9,.fr 0 [])::piH n ps R,11⟩) (fun _=>True) ?_ fun _ _=>?_
 ·generalize lnS s=o at hs ⊢
  rcases(show o=0∨o=1∨o=2∨o=3∨o=4∨o=5∨o=6∨o=7 by omega) with rfl|rfl|rfl|rfl|rfl|rfl|rfl|rfl
  all_goals ((repeat (first|refine zs rfl ?_|refine zg rfl rfl rfl ?_|refine zd ?_|refine q9 ?_|refine q8 ?_));exact⟨(),by(exact z7 (by conv=>lhs;reduce)),trivial⟩)
 refine zs rfl ?_
 refine JK.cut (σ:=Unit) (fun _=>⟨[(0,.lf (.optr 0 [])),(1,vI s),(4,vI (lnS s:Nat)),(6,vB (undB R s))],(10,.fr 1 (fr63 l i))::(9,.fr 0 [])::piH n ps R,11⟩) (fun _=>True) ?_ fun _ _=>?_
 ·obtain⟨D,hD⟩:∃ D,R (lnS s)=D:=⟨_,rfl⟩
  have hRo:D.length≤100:=hD▸hR (lnS s)
  have hU:undB R s=bif decide ((0:Int)<(D.length:Int)) then(D.getD (Int.toNat ((D.length:Int)-1)) 0==0-s) else false:=by
   unfold undB
   rw[hD,Bool.eq_iff_iff]
   rcases List.eq_nil_or_concat D with h|⟨r,t,h⟩
   ·subst h;simp
   ·subst h
    simp[List.getD_eq_getElem?_getD]
  rw[hU,hD]
  generalize lnS s=o at hs hD ⊢
  rcases(show o=0∨o=1∨o=2∨o=3∨o=4∨o=5∨o=6∨o=7 by omega) with rfl|rfl|rfl|rfl|rfl|rfl|rfl|rfl
  all_goals (subst hD;clear hU;(repeat (first|refine zs rfl ?_|refine zg rfl rfl rfl ?_|refine zd ?_|refine q9 ?_|refine q8 ?_));exact⟨(),by(exact z7 (by conv=>lhs;reduce)),trivial⟩)
 (repeat (first|refine zs rfl ?_|refine zg rfl rfl rfl ?_|refine zd ?_|refine q9 ?_|refine q8 ?_))
 refine JK.loop (fun k:Nat=>⟨[(0,.lf (.optr 0 [])),(1,vI s),(4,vI (lnS s:Nat)),(6,vB (undB R s)),(34,vI (k:Int))],(10,.fr 1 (fr63 l i))::(9,.fr 0 [])::piH n ps (layK (crs ps) R s k),11⟩) (fun k=>k≤8) (fun k=>8-k) 0 (Nat.zero_le _) (by(exact z7 (by conv=>lhs;reduce))) fun k hk=>?_
 have hup:=z6e (crs ps) R s k
 have hTk:=layK_at (crs ps) R s k
 have hval:∀ y,y=layR (crs ps) R s k→y=layR (crs ps) R s k:=fun _ h=>h
 have hv1:k≠lnS s→crs ps (lnS s) k=false→layR (crs ps) R s k=R k:=fun q1 q2=>by unfold layR;rw[if_pos ⟨q1,q2⟩]
 have hv2:¬ (k≠lnS s∧crs ps (lnS s) k=false)→undB R s=true→layR (crs ps) R s k=(R k).take (Int.toNat (((R k).length:Int)-1)):=fun q1 q2=>by
  unfold layR;rw[if_neg q1,if_pos (of_decide_eq_true q2),List.dropLast_eq_take];congr 1;omega
 have hv3:k=lnS s→undB R s=false→layR (crs ps) R s k=R k++[s]:=fun q1 q2=>by unfold layR;rw[if_neg (fun h=>h.1 q1),if_neg (of_decide_eq_false q2),if_pos q1]
 have hv4:k≠lnS s→crs ps (lnS s) k=true→undB R s=false→layR (crs ps) R s k=R k++[0]:=fun q1 q2 q3=>by unfold layR;rw[if_neg (fun h=>by rw[q2] at h;cases h.2),if_neg (of_decide_eq_false q3),if_neg q1]
 have hcu:undB R s=true→¬ (k≠lnS s∧crs ps (lnS s) k=false)→k<8→R k≠[]:=fun q1 q2 q3=>hu q1 k q3 (by
  by_cases e:k=lnS s
  ·exact .inl e
  ·right;cases hX:crs ps (lnS s) k
   ·exact absurd ⟨e,hX⟩ q2
   ·rfl)
 have hrk:=hR k
 have hcx:=fun q:k<8=>hcr (lnS s) k hs q
 have hfin:k=8→piH n ps (layK (crs ps) R s k)=piH n ps (layR (crs ps) R s):=fun e=>by subst e;rfl
 rw[← hTk] at hv1 hv2 hv3 hv4 hcu hrk
 generalize layK (crs ps) R s k=T at hup hTk hv1 hv2 hv3 hv4 hcu hrk hfin ⊢
 generalize layR (crs ps) R s k=Y at hup hv1 hv2 hv3 hv4
 clear hTk hval
 obtain⟨k1,hk1⟩:∃ k1,k1=k+1:=⟨_,rfl⟩
 rw[← hk1] at hup
 have hki:((k1:Nat):Int)=(k:Int)+1:=by omega
 have hlt1:k<8→k1≤8∧8-k1<8-k:=fun h=>by omega
 clear hk1
 generalize undB R s=U at hv2 hv3 hv4 hcu ⊢
 generalize lnS s=o at hs hv1 hv2 hv3 hv4 hcu hcx ⊢
 unfold crAt at hcx
 have hB:k<8→(bif ((k:Int) != (o:Int)) then(((crM ps).getD (Int.toNat (o:Int)) rwT.dflt).getD (Int.toNat (k:Int)) (Ty.int .i64).dflt==0) else false)=(!decide (k=o)&&!crs ps o k):=fun h8=>by
  rw[Int.toNat_natCast,Int.toNat_natCast]
  by_cases e:k=o
  ·subst e;simp
  ·have e2:((k:Int) != (o:Int))=true:=by simp;omega
   rw[e2]
   have hcx:=hcx h8
   have hd0:((crM ps).getD o rwT.dflt).getD k (Ty.int .i64).dflt=((crM ps).getD o rwT.dflt).getD k 0:=rfl
   rw[cond_true,hd0,hcx]
   cases crs ps o k<;>simp[e]
 have hO:((k:Int)==(o:Int))=decide (k=o):=by rw[Bool.eq_iff_iff];simp;omega
 (repeat (first|refine zs rfl ?_|refine zg rfl rfl rfl ?_|refine zd ?_|refine q9 ?_|refine q8 ?_))
 refine z8 rfl (fun hc=>?_) (fun hc=>?_)
 ·(simp only[↓cdL] at hc;try simp only[Ty.dflt,Int.toNat_natCast] at hc)
  have hk8:k<8:=by omega
  obtain⟨n1,n2⟩:=hlt1 hk8
  replace hcu:=fun q1 q2=>hcu q1 q2 hk8
  replace hB:=hB hk8
  generalize crs ps o k=W at hv1 hv2 hv4 hcu hB
  clear hcx hc
  rcases(show k=0∨k=1∨k=2∨k=3∨k=4∨k=5∨k=6∨k=7 by omega) with rfl|rfl|rfl|rfl|rfl|rfl|rfl|rfl
  all_goals
   (repeat (first|refine zs rfl ?_|refine zg rfl rfl rfl ?_|refine zd ?_|refine q9 ?_|refine q8 ?_))
   refine z8 rfl (fun hc=>?_) (fun hc=>?_)
   ·have q:=hB.symm.trans hc
    rw[Bool.and_eq_true,Bool.not_eq_true',Bool.not_eq_true',decide_eq_false_iff_not] at q
    (repeat (first|refine zs rfl ?_|refine zg rfl rfl rfl ?_|refine zd ?_|refine q9 ?_|refine q8 ?_))
    refine⟨k1,?_,n1,n2⟩
    rw[hup,hki,hv1 q.1 q.2]
    (exact z7 (by conv=>lhs;reduce))
   ·have q:=hB.symm.trans hc
    rw[Bool.and_eq_false_iff,Bool.not_eq_false',Bool.not_eq_false',decide_eq_true_eq] at q
    (repeat (first|refine zs rfl ?_|refine zg rfl rfl rfl ?_|refine zd ?_|refine q9 ?_|refine q8 ?_))
    refine z8 rfl (fun hU=>?_) (fun hU=>?_)
    ·have hne:=List.length_pos_iff.2 (hcu hU (fun h=>q.elim h.1 (fun e=>Bool.false_ne_true (h.2.symm.trans e))))
     have hY:=hv2 (fun h=>q.elim h.1 (fun e=>Bool.false_ne_true (h.2.symm.trans e))) hU
     refine q31 xk (Tryz.f133.body.getD .skip) rfl 21 rfl ?_
     (refine z5 0 xk rfl rfl ?_;refine z5 1 xk rfl rfl ?_;refine z5 2 xk rfl rfl ?_;refine z5 3 xk rfl rfl ?_;refine z5 4 xk rfl rfl ?_;refine z5 5 xk rfl rfl ?_;refine z5 6 xk rfl rfl ?_;refine z5 8 xk rfl rfl ?_;refine z5 9 xk rfl rfl ?_;refine z5 10 xk rfl rfl ?_;refine z5 11 xk rfl rfl ?_;refine z5 12 xk rfl rfl ?_;refine z5 17 xk rfl rfl ?_;refine z5 18 xk rfl rfl ?_;refine z9 7 xk rfl rfl ?_;refine z9 13 xk rfl rfl ?_;refine z9 14 xk rfl rfl ?_;refine z9 15 xk rfl rfl ?_;refine z9 16 xk rfl rfl ?_;refine z9 19 xk rfl rfl ?_;refine j3 20 [] xk ?_ ?_;(focus (repeat (first|exact StF.nil|refine j7 rfl rfl rfl ?_)));refine(BrF.one rfl rfl ?_ BrF.nil);(· (first|(refine JL.cutS (d:=86) rfl rfl ?_ (by(first|exact trivial|(try dsimp only[allP,inK,idxC,loC,lohiC,fullC,underG,List.append,List.nil_append,List.cons_append,Ty.den,Ty.dflt,Int.toNat_natCast,List.length_cons,List.length_nil] at *);first|omega|((repeat' (first|exact trivial|assumption|refine And.intro ?_ ?_|exact fun h=>h|(intro hpk;first|exact hpk|simp only[wantB,hpk,Bool.not_false,Bool.not_true])))<;>omega)|fail));refine JL.M0 xk rfl ?_)|refine JL.M0 xk rfl ?_);refine j8 ?_;refine y9 xk StF.nil ?_;(((repeat (first|refine zs rfl ?_|refine zg rfl rfl rfl ?_|refine zd ?_|refine q9 ?_|refine q8 ?_));refine⟨k1,?_,n1,n2⟩;rw[hup,hki,hY];(exact z7 (by conv=>lhs;reduce))))))
    ·(repeat (first|refine zs rfl ?_|refine zg rfl rfl rfl ?_|refine zd ?_|refine q9 ?_|refine q8 ?_))
     refine z8 rfl (fun hE=>?_) (fun hE=>?_)
     ·have e:=of_decide_eq_true (hO.symm.trans hE)
      have hY:=hv3 e hU
      refine q31 xk (Tryz.f133.body.getD .skip) rfl 15 rfl ?_
      (refine z5 0 xk rfl rfl ?_;refine z5 1 xk rfl rfl ?_;refine z5 2 xk rfl rfl ?_;refine z5 3 xk rfl rfl ?_;refine z5 4 xk rfl rfl ?_;refine z5 5 xk rfl rfl ?_;refine z5 6 xk rfl rfl ?_;refine z5 8 xk rfl rfl ?_;refine z5 11 xk rfl rfl ?_;refine z5 12 xk rfl rfl ?_;refine z9 7 xk rfl rfl ?_;refine j3 9 [] xk ?_ ?_;(focus (repeat (first|exact StF.nil|refine j7 rfl rfl rfl ?_)));refine(BrF.one rfl rfl ?_ BrF.nil);(· (refine d9 xk rfl rfl ?_);refine j8 ?_;refine j3 10 [] xk ?_ ?_;(focus (repeat (first|exact StF.nil|refine j7 rfl rfl rfl ?_)));refine(BrF.one rfl rfl ?_ BrF.nil);(· (first|refine d9 xk rfl rfl ?_|refine JL.M0 xk rfl ?_);refine j8 ?_;refine z5 13 xk rfl rfl ?_;refine j3 14 [] xk StF.nil (BrF.one rfl rfl ?_ BrF.nil);(· (first|refine JL.M0 xk rfl ?_);refine j8 ?_;refine y9 xk StF.nil ?_;(((repeat (first|refine zs rfl ?_|refine zg rfl rfl rfl ?_|refine zd ?_|refine q9 ?_|refine q8 ?_));refine⟨k1,?_,n1,n2⟩;rw[hup,hki,hY];(exact z7 (by conv=>lhs;reduce))))))))
     ·have e:=of_decide_eq_false (hO.symm.trans hE)
      have hY:=hv4 e (q.resolve_left e) hU
      refine q31 xk (Tryz.f133.body.getD .skip) rfl 14 rfl ?_
      (refine z5 0 xk rfl rfl ?_;refine z5 1 xk rfl rfl ?_;refine z5 2 xk rfl rfl ?_;refine z5 3 xk rfl rfl ?_;refine z5 4 xk rfl rfl ?_;refine z5 5 xk rfl rfl ?_;refine z5 6 xk rfl rfl ?_;refine z5 10 xk rfl rfl ?_;refine z5 11 xk rfl rfl ?_;refine z9 7 xk rfl rfl ?_;refine j3 8 [] xk ?_ ?_;(focus (repeat (first|exact StF.nil|refine j7 rfl rfl rfl ?_)));refine(BrF.one rfl rfl ?_ BrF.nil);(· (refine d9 xk rfl rfl ?_);refine j8 ?_;refine j3 9 [] xk ?_ ?_;(focus (repeat (first|exact StF.nil|refine j7 rfl rfl rfl ?_)));refine(BrF.one rfl rfl ?_ BrF.nil);(· (first|refine d9 xk rfl rfl ?_|refine JL.M0 xk rfl ?_);refine j8 ?_;refine z5 12 xk rfl rfl ?_;refine j3 13 [] xk StF.nil (BrF.one rfl rfl ?_ BrF.nil);(· (first|refine JL.M0 xk rfl ?_);refine j8 ?_;refine y9 xk StF.nil ?_;(((repeat (first|refine zs rfl ?_|refine zg rfl rfl rfl ?_|refine zd ?_|refine q9 ?_|refine q8 ?_));refine⟨k1,?_,n1,n2⟩;rw[hup,hki,hY];(exact z7 (by conv=>lhs;reduce))))))))
 ·(simp only[↓cdL] at hc;try simp only[Ty.dflt,Int.toNat_natCast] at hc)
  rw[hfin (by omega)]
  (repeat (first|refine zs rfl ?_|refine zg rfl rfl rfl ?_|refine zd ?_|refine q9 ?_|refine q8 ?_))
  exact q6n (z19 rfl rfl rfl rfl hK)
end Go.Proofs.YtjfafggkkjgpeaaGreatDoor
namespace Go.Proofs.YtjfafggkkjgpeaaGreatDoor
open Go Go.RowKit Ox Ox.Sh Ox.Se Ox.St
attribute [local irreducible] JC JL JK JW
theorem z7p{X:Nat→Nat→Bool}(k:Nat):∀ rv:List Int,(bld X rv k).length≤rv.length
 |[]=>Nat.le_refl _
 |t::r=>by
  have:=z7p (X:=X) k r
  simp only[bld,List.length_append,List.length_cons]
  have:(ext X t k).length≤1:=by
   unfold ext;split
   ·simp
   ·split<;>simp
  omega
def okS(l:List Int):Prop:=∀ s∈l,s≠0∧lnS s<8
theorem q86{n:Int}{ps:List (List Int)}{l:List Int}(h:lstE n ps l=0):okS l:=fun s hs=>by
 obtain⟨h1,_,h2⟩:=q5x h
 have:=h2 s hs
 have:=(z2p h1).1
 unfold lnS
 exact⟨by omega,by omega⟩
abbrev plR(ps:List (List Int))(l:List Int):Nat→List Int:=layL (X:=crs ps) (fun _=>[]) l
theorem q7s(ps:List (List Int)){l:List Int}(h:okS l):∃ rv,Pile (crs ps) rv (plR ps l)∧rv.length≤l.length∧okS rv:=by
 obtain⟨rv,p,h1,h2⟩:=q94 (q2h ps) (u:=l) (Pile.nil (X:=crs ps)) (fun s hs=>(h s hs).1)
 refine⟨rv,p,by simpa using h1,fun t ht=>h t ?_⟩
 rcases h2 t ht with h|h
 ·exact h
 ·simp at h
theorem plR_len(ps:List (List Int)){l:List Int}(h:okS l)(k:Nat):(plR ps l k).length≤l.length:=by
 obtain⟨rv,p,h1,_⟩:=q7s ps h
 rw[p.eq]
 exact Nat.le_trans (z7p k rv) h1
theorem plR_undo(ps:List (List Int)){l:List Int}(h:okS l){s:Int}(h0:s≠0)(hu:undB (plR ps l) s=true)(k:Nat)(hk:k=lnS s∨crs ps (lnS s) k=true):plR ps l k≠[]:=by
 obtain⟨rv,p,_⟩:=q7s ps h
 obtain⟨_,_,_,_,_,e⟩:=p.undo (q2h ps) h0 (of_decide_eq_true hu)
 rw[e k]
 intro hc
 have:=(List.append_eq_nil_iff.1 hc).2
 unfold ext at this
 rw[f7] at this
 rcases hk with rfl|hk
 ·simp at this
 ·by_cases e:k=lnS s
  ·simp[e] at this
  ·simp[e,hk] at this
theorem z1y{l:List Int}(h:okS l)(i:Nat):okS (l.take i):=fun s hs=>h s (List.mem_of_mem_take hs)
abbrev piD(n:Int)(ps:List (List Int))(R:Nat→List Int):piT.den:=(some (tbV n ps),rowsD R,())
set_option maxHeartbeats 8000000 in
theorem pile_in{n:Int}{ps:List (List Int)}(hb:benE n ps=0){l:List Int}(hl:okS l)(h60:l.length≤60)
  {E:World} {M0 M1:Mem} {nn:Nat} {up up1:Nat→Nat→Value} {K:AV→List (Nat×AV)→List (Nat×HO)→Nat→Prop} (hK:K (.lf (.optr 0 [])) [] [(0,.cell piT (.val piT (piD n ps (plR ps l))))] 10) :
  JK (Ctx.sub ⟨Tryz.prog,tys,ets,mts,E,M0,nn,none,up,0⟩ M1 Tryz.f63.ntmps none up1) [.code (Tryz.f63.body.getD .skip)]
   (inlQ ⟨Tryz.prog,tys,ets,mts,E,M0,nn,none,up,0⟩ Tryz.f63.results.toList K) ⟨[(0,vTb n ps),(1,vL l)],[(0,.fr 0 [])],1⟩:=by
 refine cdf (fn:=Tryz.f63) rfl ?_
 (repeat (first|refine zs rfl ?_|refine zg rfl rfl rfl ?_|refine zd ?_|refine q9 ?_|refine q8 ?_))
 refine q0k 1 [true,false,false] 3 (.int .i64) rfl rfl ?_
 refine q0k 1 [true,false,true,false] 3 (.int .i64) rfl rfl ?_
 refine q0k 1 [true,false,true,true,false] 3 (.int .i64) rfl rfl ?_
 refine q0k 1 [true,false,true,true,true,false] 3 (.int .i64) rfl rfl ?_
 refine q0k 1 [true,false,true,true,true,true,false] 3 (.int .i64) rfl rfl ?_
 refine q0k 1 [true,false,true,true,true,true,true,false] 3 (.int .i64) rfl rfl ?_
 refine q0k 1 [true,false,true,true,true,true,true,true,false] 3 (.int .i64) rfl rfl ?_
 refine q0k 1 [true,false,true,true,true,true,true,true,true,false] 3 (.int .i64) rfl rfl ?_
 refine JK.loop (fun i:Nat=>⟨[(5,.lf (.optr 0 [])),(11,vL l),(12,vI l.length),(13,vI (i:Int))],(9,.fr 0 [])::piH n ps (plR ps (l.take i)),10⟩) (fun i=>i≤l.length) (fun i=>l.length-i) 0 (Nat.zero_le _) (by(exact z7 (by conv=>lhs;reduce))) fun i hi=>?_
 have hlen:=plR_len ps (z1y hl i)
 have hund:=fun s h0 hu k hk=>plR_undo ps (z1y hl i) (s:=s) h0 hu k hk
 have hnx:i<l.length→plR ps (l.take (i+1))=layR (crs ps) (plR ps (l.take i)) (l.getD i 0):=fun h=>by
  rw[List.take_succ_eq_append_getElem h,j6 l h]
  show layL _ _=_
  rw[q2g];rfl
 have hle:(l.take i).length≤60:=by rw[List.length_take];omega
 have hfin:i=l.length→plR ps (l.take i)=plR ps l:=fun e=>by rw[e,List.take_length]
 generalize plR ps (l.take i)=R at hlen hund hnx hfin ⊢
 (repeat (first|refine zs rfl ?_|refine zg rfl rfl rfl ?_|refine zd ?_|refine q9 ?_|refine q8 ?_))
 refine z8 rfl (fun hc=>?_) (fun hc=>?_)
 ·(simp only[↓cdL] at hc;try simp only[Ty.dflt,Int.toNat_natCast] at hc)
  have hi':i<l.length:=by omega
  have hnx:=hnx hi'
  have hz:l.getD (Int.toNat (i:Int)) (Ty.int .i64).dflt=l.getD i 0:=rfl
  have hs:l.getD i 0∈l:=by rw[j6 l hi'];exact List.getElem_mem hi'
  obtain⟨q1,q2⟩:=hl _ hs
  generalize l.getD i 0=s at hnx hs q1 q2 hz
  (repeat (first|refine zs rfl ?_|refine zg rfl rfl rfl ?_|refine zd ?_|refine q9 ?_|refine q8 ?_))
  refine JK.inl [5,11,12,13] rfl rfl trivial Tryz.func133 rfl Tryz.call133 (Nat.le_of_ble_eq_true rfl) rfl fun M2 up2=>?_
  refine cdt (fn:=Tryz.f133) rfl ?_
  rw[hz]
  show JK _ _ _ ⟨[(0,.lf (.optr 0 [])),(1,vI s)],(10,.fr 1 (fr63 l i))::(9,.fr 0 [])::piH n ps R,11⟩
  refine lay_in hb l i R s q1 q2 (fun k=>Nat.le_trans (hlen k) (by omega)) (fun hu k _ hk=>hund s q1 hu k hk) ?_
  rw[← hnx]
  (repeat (first|refine zs rfl ?_|refine zg rfl rfl rfl ?_|refine zd ?_|refine q9 ?_|refine q8 ?_))
  exact⟨i+1,by(exact z7 (by conv=>lhs;reduce)),by omega,by omega⟩
 ·(simp only[↓cdL] at hc;try simp only[Ty.dflt,Int.toNat_natCast] at hc)
  rw[hfin (by omega)]
  (refine JK.fz [1,2,3,4,5,6,7,8] [5] rfl ?_)
  refine JK.cellV 0 rfl rfl ?_
  (repeat (first|refine zs rfl ?_|refine zg rfl rfl rfl ?_|refine zd ?_|refine q9 ?_|refine q8 ?_))
  exact z18 rfl rfl rfl rfl hK
end Go.Proofs.YtjfafggkkjgpeaaGreatDoor
namespace Go.Proofs.YtjfafggkkjgpeaaGreatDoor
open Go Go.RowKit Ox Ox.Se Ox.St
attribute [local irreducible] JC JL JK JW
theorem fn28(xs ys:List Int):Ox.Fn Tryz.prog 28 (.acons (vL xs) (.acons (vL ys) .anil)) (·=vB (decide (xs=ys))):=by
 refine Ox.Fn.intro xok Tryz.func28 rfl Tryz.call28 (Nat.le_of_ble_eq_true rfl) (fun E M0 up=>?_)
 refine j4 ?_
 refine JK.lenOf 0 rfl fun hlen=>?_
 refine JK.lenOf 1 rfl fun hlen2=>?_
 replace hlen:xs.length≤9223372036854775807:=hlen.1
 replace hlen2:ys.length≤9223372036854775807:=hlen2.1
 (repeat (first|refine zs rfl ?_|refine zg rfl rfl rfl ?_|refine zd ?_|refine q9 ?_|refine q8 ?_))
 refine z8 rfl (fun hc=>?_) (fun hc=>?_)
 ·(simp only[↓cdL] at hc;try simp only[Ty.dflt,Int.toNat_natCast] at hc)
  (repeat (first|refine zs rfl ?_|refine zg rfl rfl rfl ?_|refine zd ?_|refine q9 ?_|refine q8 ?_))
  refine⟨.inl rfl,_,_,rfl,trivial,?_⟩
  have:¬ xs=ys:=fun h=>by rw[h] at hc;exact hc rfl
  rw[decide_eq_false this]
 ·(simp only[↓cdL] at hc;try simp only[Ty.dflt,Int.toNat_natCast] at hc)
  have hl:xs.length=ys.length:=by omega
  (repeat (first|refine zs rfl ?_|refine zg rfl rfl rfl ?_|refine zd ?_|refine q9 ?_|refine q8 ?_))
  refine JK.loop (fun i:Nat=>⟨[(0,vL xs),(1,vL ys),(12,vI xs.length),(13,vI (i:Int))],[],0⟩) (fun i=>i≤xs.length∧xs.take i=ys.take i) (fun i=>xs.length-i) 0 ⟨Nat.zero_le _,rfl⟩ (by(exact z7 (by conv=>lhs;reduce))) fun i ⟨hi,hn⟩=>?_
  (repeat (first|refine zs rfl ?_|refine zg rfl rfl rfl ?_|refine zd ?_|refine q9 ?_|refine q8 ?_))
  refine z8 rfl (fun hd=>?_) (fun hd=>?_)
  ·(simp only[↓cdL] at hd;try simp only[Ty.dflt,Int.toNat_natCast] at hd)
   have hi':i<xs.length:=by omega
   have e1:xs.getD (Int.toNat (i:Int)) (Ty.int .i64).dflt=xs[i]:=j6 xs hi' _
   have e2:ys.getD (Int.toNat (i:Int)) (Ty.int .i64).dflt=ys[i]'(by omega):=j6 ys (by omega) _
   (repeat (first|refine zs rfl ?_|refine zg rfl rfl rfl ?_|refine q9 ?_|refine q8 ?_))
   refine s8 xk (Tryz.f28.body.getD .skip) ⟨[(0,vL xs),(1,vL ys),(12,vI xs.length),(13,vI (i:Int)),(24,vB (xs[i] != ys[i]'(by omega)))],[],0⟩ rfl 9 rfl ?_ ?_
   ·rw[← e1,← e2]
    (refine z5 0 xk rfl rfl ?_;refine z5 1 xk rfl rfl ?_;refine z5 2 xk rfl rfl ?_;refine z5 4 xk rfl rfl ?_;refine z5 5 xk rfl rfl ?_;refine z5 6 xk rfl rfl ?_;refine z9 3 xk rfl rfl ?_;refine z9 7 xk rfl rfl ?_;refine z9 8 xk rfl rfl ?_;refine y9 xk ?_ ?_;(focus (repeat (first|exact StF.nil|refine j7 rfl rfl rfl ?_)));((exact z7 (by conv=>lhs;reduce))))
   refine z8 rfl (fun he=>?_) (fun he=>?_)
   ·(repeat (first|refine zs rfl ?_|refine zg rfl rfl rfl ?_|refine zd ?_|refine q9 ?_|refine q8 ?_))
    refine⟨.inl rfl,_,_,rfl,trivial,?_⟩
    have:¬ xs=ys:=fun h=>by subst h;simp at he
    rw[decide_eq_false this]
   ·(repeat (first|refine zs rfl ?_|refine zg rfl rfl rfl ?_|refine zd ?_|refine q9 ?_|refine q8 ?_))
    refine⟨i+1,by(exact z7 (by conv=>lhs;reduce)),⟨by omega,?_⟩,by omega⟩
    rw[List.take_succ_eq_append_getElem hi',List.take_succ_eq_append_getElem (by omega),hn]
    congr 2
    simpa using he
  ·(simp only[↓cdL] at hd;try simp only[Ty.dflt,Int.toNat_natCast] at hd)
   (repeat (first|refine zs rfl ?_|refine zg rfl rfl rfl ?_|refine zd ?_|refine q9 ?_|refine q8 ?_))
   refine⟨.inl rfl,_,_,rfl,trivial,?_⟩
   have:i=xs.length:=by omega
   subst this
   rw[List.take_length,hl,List.take_length] at hn
   simp[hn]
theorem fn66(s:Int)(h:-1000≤s∧s≤1000):Ox.Fn Tryz.prog 66 (.acons (vI s) .anil) (·=vI (keyS s)):=by
 refine Ox.Fn.intro xok Tryz.func66 rfl Tryz.call66 (Nat.le_of_ble_eq_true rfl) (fun E M0 up=>?_)
 refine j4 ?_
 (repeat (first|refine zs rfl ?_|refine zg rfl rfl rfl ?_|refine zd ?_|refine q9 ?_|refine q8 ?_))
 refine z8 rfl (fun hc=>?_) (fun hc=>?_)
 ·(simp only[↓cdL] at hc;try simp only[Ty.dflt,Int.toNat_natCast] at hc)
  (repeat (first|refine zs rfl ?_|refine zg rfl rfl rfl ?_|refine zd ?_|refine q9 ?_|refine q8 ?_))
  refine⟨.inl rfl,_,_,rfl,trivial,?_⟩
  refine congrArg vI ?_
  unfold keyS;rw[if_pos hc]
 ·(simp only[↓cdL] at hc;try simp only[Ty.dflt,Int.toNat_natCast] at hc)
  (repeat (first|refine zs rfl ?_|refine zg rfl rfl rfl ?_|refine zd ?_|refine q9 ?_|refine q8 ?_))
  refine⟨.inl rfl,_,_,rfl,trivial,?_⟩
  refine congrArg vI ?_
  unfold keyS;rw[if_neg (by omega)]
theorem q65{key:Int→Int}:∀ {r:List Int} {b:Int},leastG key b r=b∨leastG key b r∈r
 |[],b=>.inl rfl
 |x::r,b=>by
  rw[leastG]
  rcases q65 (key:=key) (r:=r) (b:=if key x<key b then x else b) with h|h
  ·rw[h];split
   ·exact .inr List.mem_cons_self
   ·exact .inl rfl
  ·exact .inr (List.mem_cons_of_mem _ h)
theorem q5y{key:Int→Int}{y:Int}:∀ {r:List Int} {b:Int},leastG key b (r++[y])=if key y<key (leastG key b r) then y else leastG key b r
 |[],b=>rfl
 |x::r,b=>by rw[List.cons_append,leastG,leastG,q5y]
theorem fn65(x:Int)(r:List Int)(hx:∀ y∈x::r,-1000≤y∧y≤1000):Ox.Fn Tryz.prog 65 (.acons (vL (x::r)) (.acons (.fn 66 .anil .anil) .anil)) (·=vI (leastG keyS x r)):=by
 refine Ox.Fn.intro xok Tryz.func65 rfl Tryz.call65 (Nat.le_of_ble_eq_true rfl) (fun E M0 up=>?_)
 refine j4 ?_
 refine JK.lenOf 0 rfl fun hlen=>?_
 replace hlen:(x::r).length≤9223372036854775807:=hlen.1
 rw[List.length_cons] at hlen
 have e1:(0:Int)<(x::r).length:=by rw[List.length_cons];omega
 have e2:(1:Int)≤(x::r).length:=by rw[List.length_cons];omega
 (repeat (first|refine zs rfl ?_|refine zg rfl rfl rfl ?_|refine zd ?_|refine q9 ?_|refine q8 ?_))
 refine JK.loop (fun i:Nat=>⟨[(1,.fn 66 .anil .anil),(5,vI (leastG keyS x (r.take i))),(12,vL r),(13,vI r.length),(14,vI (i:Int))],[],0⟩) (fun i=>i≤r.length) (fun i=>r.length-i) 0 (Nat.zero_le _) (by(exact z7 (by conv=>lhs;reduce))) fun i hi=>?_
 have hnx:i<r.length→leastG keyS x (r.take (i+1))=if keyS (r.getD i 0)<keyS (leastG keyS x (r.take i)) then r.getD i 0 else leastG keyS x (r.take i):=fun h=>by
  rw[List.take_succ_eq_append_getElem h,q5y,j6 r h]
 have hm:-1000≤leastG keyS x (r.take i)∧leastG keyS x (r.take i)≤1000:=by
  rcases q65 (key:=keyS) (r:=r.take i) (b:=x) with h|h
  ·rw[h];exact hx x List.mem_cons_self
  ·exact hx _ (List.mem_cons_of_mem _ (List.mem_of_mem_take h))
 have hfin:i=r.length→leastG keyS x (r.take i)=leastG keyS x r:=fun e=>by rw[e,List.take_length]
 generalize leastG keyS x (r.take i)=b at hnx hm hfin ⊢
 (repeat (first|refine zs rfl ?_|refine zg rfl rfl rfl ?_|refine zd ?_|refine q9 ?_|refine q8 ?_))
 refine z8 rfl (fun hc=>?_) (fun hc=>?_)
 ·(simp only[↓cdL] at hc;try simp only[Ty.dflt,Int.toNat_natCast] at hc)
  have hi':i<r.length:=by omega
  have hy:-1000≤r.getD i 0∧r.getD i 0≤1000:=hx _ (by rw[j6 r hi'];exact List.mem_cons_of_mem _ (List.getElem_mem hi'))
  have c1:=fn66 (r.getD i 0) hy
  have c2:=fn66 b hm
  replace hnx:=hnx hi'
  have hz:r.getD (Int.toNat (i:Int)) (Ty.int .i64).dflt=r.getD i 0:=rfl
  (repeat (first|refine zs rfl ?_|refine zg rfl rfl rfl ?_|refine zd ?_|refine q9 ?_|refine q8 ?_|refine zc rfl (c1) rfl rfl ?_|refine ze rfl (c1) rfl ?_|refine zk rfl rfl (fun _=>c1) rfl rfl ?_|refine zc rfl (c2) rfl rfl ?_|refine ze rfl (c2) rfl ?_|refine zk rfl rfl (fun _=>c2) rfl rfl ?_))
  refine z8 rfl (fun hd=>?_) (fun hd=>?_)
  ·(simp only[↓cdL] at hd;try simp only[Ty.dflt,Int.toNat_natCast] at hd)
   rw[if_pos hd] at hnx
   (repeat (first|refine zs rfl ?_|refine zg rfl rfl rfl ?_|refine zd ?_|refine q9 ?_|refine q8 ?_))
   refine⟨i+1,?_,by omega,by omega⟩
   rw[hnx];(exact z7 (by conv=>lhs;reduce))
  ·(simp only[↓cdL] at hd;try simp only[Ty.dflt,Int.toNat_natCast] at hd)
   rw[if_neg (by omega)] at hnx
   (repeat (first|refine zs rfl ?_|refine zg rfl rfl rfl ?_|refine zd ?_|refine q9 ?_|refine q8 ?_))
   refine⟨i+1,?_,by omega,by omega⟩
   rw[hnx];(exact z7 (by conv=>lhs;reduce))
 ·(simp only[↓cdL] at hc;try simp only[Ty.dflt,Int.toNat_natCast] at hc)
  rw[hfin (by omega)]
  (repeat (first|refine zs rfl ?_|refine zg rfl rfl rfl ?_|refine zd ?_|refine q9 ?_|refine q8 ?_))
  refine⟨.inl rfl,_,_,rfl,trivial,?_⟩
  rfl
theorem q55(R:Nat→List Int):∀ {n k:Nat},k≤n→∃ post,frontsN R n=frontsN R k++post
 |0,k,h=>⟨[],by rw[show k=0 by omega];rfl⟩
 |n+1,k,h=>by
  rcases Nat.lt_or_ge n k with h1|h1
  ·exact⟨[],by rw[show k=n+1 by omega,List.append_nil]⟩
  ·obtain⟨p,hp⟩:=q55 R (n:=n) (k:=k) h1
   exact⟨p++frontK (R n),by rw[frontsN,hp,List.append_assoc]⟩
section
variable {E:World}{Mx M0:Mem}{nX:Nat}{rdX:Option Nat}{up:Nat→Nat→Value}{dp lab:Nat}{r:List Fr}{QA:Exit→S→Prop}
theorem front_it(R:Nat→List Int)(K:List Int→List (Nat×HO))
  (hY:∀ pre s post,frontsR R=pre++s::post→YO ⟨Tryz.prog,tys,ets,mts,E,Mx,nX,rdX,up,dp⟩ 30 lab (.acons (vI s) .anil) (K pre) 100 true (K (pre++[s])) 100)
  (k:∀ L,JK ⟨Tryz.prog,tys,ets,mts,E,M0,30,none,up,dp⟩ r QA ⟨L,K (frontsR R),100⟩) :
  JK ⟨Tryz.prog,tys,ets,mts,E,M0,30,none,up,dp⟩ (.code (lpC Tryz.f134.body)::.blk 0::r) QA ⟨[(0,.lf (.yld lab)),(8,.val rsT (rowsD R)),(9,vI 0)],K [],100⟩:=by
 refine JK.loop (fun i:Nat=>⟨[(0,.lf (.yld lab)),(8,.val rsT (rowsD R)),(9,vI (i:Int))],K (frontsN R i),100⟩) (fun i=>i≤8) (fun i=>8-i) 0 (Nat.zero_le _) (JW.refl _) fun i hi=>?_
 (repeat (first|refine zs rfl ?_|refine zg rfl rfl rfl ?_|refine zd ?_|refine q9 ?_|refine q8 ?_))
 refine z8 rfl (fun hc=>?_) (fun hc=>?_)
 ·(simp only[↓cdL] at hc;try simp only[Ty.dflt,Int.toNat_natCast] at hc)
  have hi':i<8:=by omega
  have hz:(rowsD R).getD (Int.toNat (i:Int)) (Ty.slice (.int .i64)).dflt=R i:=q80 R hi' _
  obtain⟨post,hpost⟩:=q55 R (n:=8) (k:=i+1) (by omega)
  have hsn:frontsN R (i+1)=frontsN R i++frontK (R i):=rfl
  rw[hsn] at hpost
  (repeat (first|refine zu rfl ?_|refine zg rfl rfl rfl ?_|refine zd ?_|refine q9 ?_|refine q8 ?_))
  rw[hz]
  generalize frontsN R i=pre at hsn hpost ⊢
  generalize R i=D at hsn hpost ⊢
  cases D with
  |nil=>
   rw[show frontK []=[] from rfl,List.append_nil] at hsn
   (repeat (first|refine zs rfl ?_|refine zfl rfl rfl rfl ?_|refine z2y rfl rfl rfl rfl trivial trivial ?_))
   refine z8 rfl (fun h=>by cases h) (fun _=>?_)
   (repeat (first|refine zs rfl ?_|refine zg rfl rfl rfl ?_|refine zd ?_|refine q9 ?_|refine q8 ?_))
   refine⟨i+1,?_,by omega,by omega⟩
   rw[hsn]
   exact JW.same ⟨rfl,rfl,rfl,trivial⟩
  |cons x y=>
   have h15:decide ((0:Int)<((x::y).length:Int))=true:=by simp
   by_cases hx:x=0
   ·rw[show frontK (x::y)=[] by simp[frontK,hx],List.append_nil] at hsn
    have h19:(bif decide ((0:Int)<((x::y).length:Int)) then(x != 0) else false)=false:=by rw[h15,hx];rfl
    (repeat (first|refine zs rfl ?_|refine zt rfl (by show wantB true (decide ((0:Int)<((x::y).length:Int)))=true;rw[h15];rfl) ?_|refine zfl rfl (by show wantB true (bif decide ((0:Int)<((x::y).length:Int)) then(x != 0) else false)=false;rw[h19];rfl) rfl ?_|refine z2y rfl h19 rfl rfl trivial trivial ?_))
    refine z8 rfl (fun h=>by cases h) (fun _=>?_)
    (repeat (first|refine zs rfl ?_|refine zg rfl rfl rfl ?_|refine zd ?_|refine q9 ?_|refine q8 ?_))
    refine⟨i+1,?_,by omega,by omega⟩
    rw[hsn]
    exact JW.same ⟨rfl,rfl,rfl,trivial⟩
   ·rw[show frontK (x::y)=[x] by simp[frontK,hx]] at hsn hpost
    have y1:=hY pre x post (by rw[show frontsR R=frontsN R 8 from rfl,hpost];simp)
    rw[← hsn] at y1
    have h19:(bif decide ((0:Int)<((x::y).length:Int)) then(x != 0) else false)=true:=by rw[h15,cond_true];simpa using hx
    (repeat (first|refine zs rfl ?_|refine zt rfl (by show wantB true (decide ((0:Int)<((x::y).length:Int)))=true;rw[h15];rfl) ?_|refine zt rfl (by show wantB true (bif decide ((0:Int)<((x::y).length:Int)) then(x != 0) else false)=true;rw[h19];rfl) ?_))
    refine z8f (X:=⟨Tryz.prog,tys,ets,mts,E,Mx,nX,rdX,up,dp⟩) [0,8,9,21] y1 rfl rfl rfl (by simp[stayL,stayB,svL,lk]) trivial ?_
    (repeat (first|refine zs rfl ?_|refine zt rfl (by show wantB true (bif decide ((0:Int)<((x::y).length:Int)) then(x != 0) else false)=true;rw[h19];rfl) ?_))
    refine z8 rfl (fun h=>by revert h;cases (bif decide ((0:Int)<((x::y).length:Int)) then(x != 0) else false)<;>simp) (fun _=>?_)
    (repeat (first|refine zs rfl ?_|refine zg rfl rfl rfl ?_|refine zd ?_|refine q9 ?_|refine q8 ?_))
    exact⟨i+1,JW.same ⟨rfl,rfl,rfl,trivial⟩,by omega,by omega⟩
 ·(simp only[↓cdL] at hc;try simp only[Ty.dflt,Int.toNat_natCast] at hc)
  obtain rfl:i=8:=by omega
  (repeat (first|refine zs rfl ?_|refine zg rfl rfl rfl ?_|refine zd ?_|refine q9 ?_|refine q8 ?_))
  exact k _
end
end Go.Proofs.YtjfafggkkjgpeaaGreatDoor
namespace Go.Proofs.YtjfafggkkjgpeaaGreatDoor
open Go Go.RowKit Ox Ox.Se Ox.St
attribute [local irreducible] JC JL JK JW
def takK(X:Nat→Nat→Bool)(R:Nat→List Int)(s:Int)(k:Nat):Nat→List Int:=fun j=>if j<k then takeR X R s j else R j
theorem takK_at(X:Nat→Nat→Bool)(R:Nat→List Int)(s:Int)(k:Nat):takK X R s k k=R k:=by simp[takK]
theorem z37(X:Nat→Nat→Bool)(R:Nat→List Int)(s:Int){k:Nat}(h:k<8):rowsD (takK X R s (k+1))=(rowsD (takK X R s k)).set k (takeR X R s k):=by
 rw[z4k _ h]
 congr 1
 funext j
 unfold takK
 rcases Nat.lt_trichotomy j k with h|h|h
 ·rw[if_pos (by omega),if_neg (by omega),if_pos h]
 ·rw[if_pos (by omega),if_pos h,h]
 ·rw[if_neg (by omega),if_neg (by omega),if_neg (by omega)]
theorem z38(X:Nat→Nat→Bool)(R:Nat→List Int)(s:Int)(k:Nat)(h:takeR X R s k=R k):takK X R s (k+1)=takK X R s k:=by
 funext j
 unfold takK
 rcases Nat.lt_trichotomy j k with h2|h2|h2
 ·rw[if_pos (by omega),if_pos h2]
 ·subst h2;rw[if_pos (by omega),if_neg (by omega),h]
 ·rw[if_neg (by omega),if_neg (by omega)]
abbrev piE(n:Int)(ps D:List (List Int)):piT.den:=(some (tbV n ps),D,())
abbrev fr29(s:Int):List (Nat×AV):=[(5,.lf (.optr 0 [])),(6,.lf (.osl 1)),(9,vI s)]
set_option maxHeartbeats 2000000 in
theorem take_in{n:Int}{ps:List (List Int)}(hb:benE n ps=0)(R:Nat→List Int)(s:Int)(h0:s≠0)(hs:lnS s<8)(out:List Int)
  (hu:∀ k,k<8→k=lnS s∨crs ps (lnS s) k=true→R k≠[])
  {E:World} {M0 M1:Mem} {nn:Nat} {up up1:Nat→Nat→Value} {K:AV→List (Nat×AV)→List (Nat×HO)→Nat→Prop}
  (hK:K (resV .anil) (fr29 s) [(0,.cell piT (.val piT (piE n ps (rowsD (takeR (crs ps) R s))))),(1,.sl 3 (.int .i64) out)] 3) :
  JK (Ctx.sub ⟨Tryz.prog,tys,ets,mts,E,M0,nn,none,up,0⟩ M1 Tryz.f67.ntmps none up1) [.code (Tryz.f67.body.getD .skip)]
   (inlQ ⟨Tryz.prog,tys,ets,mts,E,M0,nn,none,up,0⟩ Tryz.f67.results.toList K) ⟨[(0,.lf (.optr 0 [])),(1,vI s)],[(2,.fr 0 (fr29 s)),(0,.cell piT (.val piT (piE n ps (rowsD R)))),(1,.sl 3 (.int .i64) out)],3⟩:=by
 have c135:=fn135 s h0 hs
 obtain⟨hm8,hcr⟩:=z2i ps (ben_lt hb)
 refine cdf (fn:=Tryz.f67) rfl ?_
 (repeat (first|refine zs rfl ?_|refine zg rfl rfl rfl ?_|refine zd ?_|refine q9 ?_|refine q8 ?_|refine zc rfl (c135) rfl rfl ?_|refine ze rfl (c135) rfl ?_|refine zk rfl rfl (fun _=>c135) rfl rfl ?_))
 refine JK.loop (fun k:Nat=>⟨[(0,.lf (.optr 0 [])),(4,vI (lnS s:Nat)),(8,vI (k:Int))],[(2,.fr 0 (fr29 s)),(0,.cell piT (.val piT (piE n ps (rowsD (takK (crs ps) R s k))))),(1,.sl 3 (.int .i64) out)],3⟩) (fun k=>k≤8) (fun k=>8-k) 0 (Nat.zero_le _) (by(exact z7 (by conv=>lhs;reduce))) fun k hk=>?_
 have hfin:k=8→rowsD (takK (crs ps) R s k)=rowsD (takeR (crs ps) R s):=fun e=>by
  subst e
  unfold rowsD
  refine List.map_congr_left fun j hj=>?_
  unfold takK;rw[if_pos (List.mem_range.1 hj)]
 have hget:k<8→(rowsD (takK (crs ps) R s k)).getD k (Ty.slice (.int .i64)).dflt=R k:=fun h=>by rw[q80 _ h,takK_at]
 have hsame:=z38 (crs ps) R s k
 have hsucc:k<8→rowsD (takK (crs ps) R s (k+1))=(rowsD (takK (crs ps) R s k)).set k (takeR (crs ps) R s k):=fun h=>z37 (crs ps) R s h
 have ht1:(k=lnS s∨crs ps (lnS s) k=true)→takeR (crs ps) R s k=(R k).drop 1:=fun h=>by unfold takeR;rw[if_pos h]
 have ht2:¬ (k=lnS s∨crs ps (lnS s) k=true)→takeR (crs ps) R s k=R k:=fun h=>by unfold takeR;rw[if_neg h]
 have hne:=hu k
 have hcx:=fun q:k<8=>hcr (lnS s) k hs q
 unfold crAt at hcx
 have hlen8:=z4l (takK (crs ps) R s k)
 generalize lnS s=o at hs ht1 ht2 hne hcx ⊢
 have hB:k<8→(bif ((k:Int)==(o:Int)) then true else(((crM ps).getD (Int.toNat (o:Int)) rwT.dflt).getD (Int.toNat (k:Int)) (Ty.int .i64).dflt==1))=(decide (k=o)||crs ps o k):=fun h8=>by
  rw[Int.toNat_natCast,Int.toNat_natCast]
  by_cases e:k=o
  ·subst e;simp
  ·have e2:((k:Int)==(o:Int))=false:=by simp;omega
   rw[e2,cond_false]
   have hcx:=hcx h8
   have hd0:((crM ps).getD o rwT.dflt).getD k (Ty.int .i64).dflt=((crM ps).getD o rwT.dflt).getD k 0:=rfl
   rw[hd0,hcx]
   cases crs ps o k<;>simp[e]
 (repeat (first|refine zs rfl ?_|refine zg rfl rfl rfl ?_|refine zd ?_|refine q9 ?_|refine q8 ?_))
 refine z8 rfl (fun hc=>?_) (fun hc=>?_)
 ·(simp only[↓cdL] at hc;try simp only[Ty.dflt,Int.toNat_natCast] at hc)
  have hk8:k<8:=by omega
  have hget:=hget hk8
  have hsucc:=hsucc hk8
  have hB:=hB hk8
  have hne:=hne hk8
  (repeat (first|refine zs rfl ?_|refine zg rfl rfl rfl ?_|refine zd ?_|refine q9 ?_|refine q8 ?_))
  refine z8 rfl (fun hd=>?_) (fun hd=>?_)
  ·have q:k=o∨crs ps o k=true:=by
    have:=hB.symm.trans hd
    simpa using this
   rw[ht1 q] at hsucc
   have hl:=List.length_pos_iff.2 (hne q)
   generalize rowsD (takK (crs ps) R s k)=D at hget hsucc hlen8 ⊢
   rw[← hget] at hsucc hl
   have hl2:(1:Int)≤((D.getD (Int.toNat (k:Int)) (Ty.slice (.int .i64)).dflt).length:Int):=by
    rw[Int.toNat_natCast];omega
   refine q31 xk (Tryz.f67.body.getD .skip) rfl 13 rfl ?_
   (refine z5 0 xk rfl rfl ?_;refine z5 1 xk rfl rfl ?_;refine z5 2 xk rfl rfl ?_;refine z5 3 xk rfl rfl ?_;refine z5 4 xk rfl rfl ?_;refine z5 5 xk rfl rfl ?_;refine z5 6 xk rfl rfl ?_;refine z5 9 xk rfl rfl ?_;refine z5 10 xk rfl rfl ?_;refine z9 7 xk rfl rfl ?_;refine z9 8 xk rfl rfl ?_;refine z9 11 xk rfl rfl ?_;refine j3 12 [] xk ?_ ?_;(focus (repeat (first|exact StF.nil|refine j7 rfl rfl rfl ?_)));refine(BrF.one rfl rfl ?_ BrF.nil);(· (first|refine JL.M0 xk rfl ?_);refine j8 ?_;refine y9 xk StF.nil ?_;(((repeat (first|refine zs rfl ?_|refine zg rfl rfl rfl ?_|refine zd ?_|refine q9 ?_|refine q8 ?_));refine⟨k+1,?_,by omega,by omega⟩;rw[hsucc];(exact z7 (by conv=>lhs;reduce))))))
  ·have q:¬ (k=o∨crs ps o k=true):=by
    have:=hB.symm.trans hd
    simpa using this
   have hY:=hsame (ht2 q)
   (repeat (first|refine zs rfl ?_|refine zg rfl rfl rfl ?_|refine zd ?_|refine q9 ?_|refine q8 ?_))
   refine⟨k+1,?_,by omega,by omega⟩
   rw[hY];(exact z7 (by conv=>lhs;reduce))
 ·(simp only[↓cdL] at hc;try simp only[Ty.dflt,Int.toNat_natCast] at hc)
  rw[hfin (by omega)]
  (repeat (first|refine zs rfl ?_|refine zg rfl rfl rfl ?_|refine zd ?_|refine q9 ?_|refine q8 ?_))
  exact q6n (z19 rfl rfl rfl rfl hK)
end Go.Proofs.YtjfafggkkjgpeaaGreatDoor
namespace Go.Proofs.YtjfafggkkjgpeaaGreatDoor
open Go Go.RowKit Ox Ox.Se Ox.St
attribute [local irreducible] JC JL JK JW
abbrev LO29:List (Nat×AV):=[(5,.lf (.optr 0 [])),(6,.lf (.osl 1)),(7,.lf (.optr 2 []))]
def KF(c d:Code)(n:Int)(ps D:List (List Int))(out pre:List Int):List (Nat×HO):=
 [(4,.fr 0 [(33,.lf (.yld 3)),(5,.lf (.optr 0 [])),(6,.lf (.osl 1)),(7,.lf (.optr 2 []))]),(3,.loop .ready none #[15] c d 33 LO29),
  (0,.cell piT (.val piT (piE n ps D))),(1,.sl 3 (.int .i64) out),(2,.cell (.slice (.int .i64)) (.lf (.osl 5))),(5,.sl 3 (.int .i64) pre)]
theorem q56(R:Nat→List Int):∀ n,(frontsN R n).length≤n
 |0=>Nat.le_refl _
 |n+1=>by
  have:=q56 R n
  have h2:(frontK (R n)).length≤1:=by
   unfold frontK;split
   ·split<;>simp
   ·simp
  simp only[frontsN,List.length_append]
  omega
set_option maxRecDepth 8000 in
set_option maxHeartbeats 2000000 in
theorem fn29{n:Int}{ps:List (List Int)}(hb:benE n ps=0){l:List Int}(hl:okS l)(h60:l.length≤60):Ox.Fn Tryz.prog 29 (.acons (vTb n ps) (.acons (vL l) .anil)) (·=vL (formR (crs ps) 60 (plR ps l))):=by
 refine Ox.Fn.intro xok Tryz.func29 rfl Tryz.call29 (Nat.le_of_ble_eq_true rfl) (fun E M0 up=>?_)
 refine j4 ?_
 (repeat (first|refine zs rfl ?_|refine zg rfl rfl rfl ?_|refine zd ?_|refine q9 ?_|refine q8 ?_))
 refine JK.inl [] rfl rfl trivial Tryz.func63 rfl Tryz.call63 (Nat.le_of_ble_eq_true rfl) rfl fun M1 up1=>?_
 refine cdt (fn:=Tryz.f63) rfl ?_
 show JK _ _ _ ⟨[(0,vTb n ps),(1,vL l)],[(0,.fr 0 [])],1⟩
 refine pile_in hb hl h60 ?_
 (repeat (first|refine zs rfl ?_|refine zg rfl rfl rfl ?_|refine zd ?_|refine q9 ?_|refine q8 ?_))
 obtain⟨rv0,hp0,hr0,ho0⟩:=q7s ps hl
 refine JK.ghost 6 3 (.int .i64) rfl ?_
 refine JK.loop (σ:=(Nat→List Int)×List Int) (fun q=>⟨[(5,.lf (.optr 0 [])),(6,.lf (.osl 1))],[(0,.cell piT (.val piT (piE n ps (rowsD q.1)))),(1,.sl 3 (.int .i64) q.2)],2⟩)
  (fun q=>(∃ rv,Pile (crs ps) rv q.1∧okS rv∧rv.length+q.2.length≤60)∧q.2++formR (crs ps) (60-q.2.length) q.1=formR (crs ps) 60 (plR ps l)) (fun q=>60-q.2.length) (plR ps l,[])
  ⟨⟨rv0,hp0,ho0,by simp;omega⟩,by simp⟩ (by(exact z7 (by conv=>lhs;reduce))) fun⟨R,out⟩ ⟨⟨rv,hp,ho,hlen⟩,hF⟩=>?_
 dsimp only at hp hlen hF ⊢
 generalize formR (crs ps) 60 (plR ps l)=F0 at hF ⊢
 (repeat (first|refine zs rfl ?_|refine zg rfl rfl rfl ?_|refine zd ?_|refine q9 ?_|refine q8 ?_))
 refine JK.inl [5,6,7] rfl rfl trivial Tryz.func64 rfl Tryz.call64 (Nat.le_of_ble_eq_true rfl) rfl fun M2 up2=>?_
 (repeat (first|refine zs rfl ?_|refine znf ?_|refine q8 ?_))
 refine z18 rfl rfl rfl rfl ?_
 (repeat (first|refine zs rfl ?_|refine zg rfl rfl rfl ?_|refine zd ?_|refine q9 ?_|refine q8 ?_))
 refine z8j 2 3 (.int .i64) rfl ?_
 refine z8h [5,6,7] rfl rfl rfl Tryz.func134 rfl Tryz.call134 (Nat.le_of_ble_eq_true rfl) trivial fun M3 up3 a1 b1 ha1 hb1=>?_
 (repeat (first|refine zs rfl ?_|refine zg rfl rfl rfl ?_|refine zd ?_|refine q9 ?_|refine q8 ?_))
 refine q1w (s':=⟨[(0,.lf (.yld 3)),(8,.val rsT (rowsD R)),(9,vI 0)],KF a1 b1 n ps (rowsD R) out [],100⟩) (by(exact z7 (by conv=>lhs;reduce))) ?_
 refine front_it (Mx:=M3) (nX:=30) (rdX:=none) R (fun pre=>KF a1 b1 n ps (rowsD R) out pre) ?_ ?_
 ·intro pre s post hps
  have hpl:pre.length≤8:=by
   have h1:=congrArg List.length hps
   have h2:=q56 R 8
   rw[List.length_append] at h1
   change (frontsN R 8).length=_ at h1
   omega
  refine YO.intro 0 33 (ps:=#[15]) (assign:=a1) (body:=b1) (nO:=33) (LO:=LO29) (L0:=[(15,vI s),(5,.lf (.optr 0 [])),(6,.lf (.osl 1)),(7,.lf (.optr 2 []))]) rfl rfl rfl ⟨4,_,rfl,rfl⟩ ⟨4,_,rfl,rfl⟩ fun M4 M5 up5 bl hup=>j4 (q96 ha1 ?_)
  (repeat (first|refine zs rfl ?_|refine zg rfl rfl rfl ?_|refine zd ?_|refine q9 ?_|refine q8 ?_))
  refine q6n (asgQ.nor rfl rfl rfl rfl (j4 (q96 hb1 ?_)))
  (repeat (first|refine zs rfl ?_|refine zg rfl rfl rfl ?_|refine zd ?_|refine q9 ?_|refine q8 ?_))
  refine q6n (bodyQ.of rfl rfl rfl rfl rfl rfl ⟨rfl,?_⟩)
  show JW _ ⟨[],KF a1 b1 n ps (rowsD R) out (pre++[s]),100⟩ _
  (exact z7 (by conv=>lhs;reduce))
 ·intro L
  refine q6n (rngQ.of (.inr rfl) rfl rfl rfl rfl rfl rfl rfl (endJ.kn ?_))
  have hfr:=hp
  obtain⟨fs,hfs⟩:∃ fs,frontsR R=fs:=⟨_,rfl⟩
  rw[hfs]
  cases fs with
  |nil=>
   (repeat (first|refine zs rfl ?_|refine zg rfl rfl rfl ?_|refine zd ?_|refine q9 ?_|refine q8 ?_))
   refine z8 rfl (fun _=>?_) (fun h=>by cases h)
   (repeat (first|refine zs rfl ?_|refine zg rfl rfl rfl ?_|refine zd ?_|refine q9 ?_|refine q8 ?_))
   refine⟨.inl rfl,_,_,rfl,trivial,?_⟩
   rw[q9n hfs,List.append_nil] at hF
   rw[hF]
  |cons s r=>
   obtain⟨s0,sh,sm⟩:=hp.front (s:=s) (by rw[hfs];exact List.mem_cons_self)
   obtain⟨t1,t2⟩:=ho s sm
   obtain⟨r1,r2,he,_,hp2,hext⟩:=hp.take (q2h ps) s0 sh
   have hrange:∀ y∈s::r,-1000≤y∧y≤1000:=fun y hy=>by
    obtain⟨_,_,ym⟩:=hp.front (s:=y) (by rw[hfs];exact hy)
    have:=(ho y ym).2
    unfold lnS at this;omega
   have hleast:leastG keyS s r=s:=by
    obtain⟨h1,_⟩:=q3l hp 8
    change (frontsR R).Pairwise _ at h1
    rw[hfs] at h1
    exact q5z fun x hx=>(List.pairwise_cons.1 h1).1 x hx
   have c65:=fn65 s r hrange
   rw[hleast] at c65
   have hrl:rv.length=(r1++r2).length+1:=by rw[he];simp;omega
   have hFn:(out++[s])++formR (crs ps) (60-(out++[s]).length) (takeR (crs ps) R s)=F0:=by
    rw[show 60-out.length=(60-(out++[s]).length)+1 by simp;omega,q66 hfs] at hF
    rw[← hF];simp
   have hlc:((s::r).length:Int)≠0:=by simp;omega
   (repeat (first|refine zs rfl ?_|refine zg rfl rfl rfl ?_|refine zd ?_|refine q9 ?_|refine q8 ?_|refine zc rfl (c65) rfl rfl ?_|refine ze rfl (c65) rfl ?_|refine zk rfl rfl (fun _=>c65) rfl rfl ?_))
   refine z8 rfl (fun h=>by simp at h;omega) (fun _=>?_)
   (repeat (first|refine zs rfl ?_|refine zg rfl rfl rfl ?_|refine zd ?_|refine q9 ?_|refine q8 ?_|refine zc rfl (c65) rfl rfl ?_|refine ze rfl (c65) rfl ?_|refine zk rfl rfl (fun _=>c65) rfl rfl ?_))
   refine JK.inl [5,6,9] rfl rfl trivial Tryz.func67 rfl Tryz.call67 (Nat.le_of_ble_eq_true rfl) rfl fun M5 up5=>?_
   refine cdt (fn:=Tryz.f67) rfl ?_
   refine q1w (s':=⟨[(0,.lf (.optr 0 [])),(1,vI s)],[(2,.fr 0 (fr29 s)),(0,.cell piT (.val piT (piE n ps (rowsD R)))),(1,.sl 3 (.int .i64) out)],3⟩) (by(exact z7 (by conv=>lhs;reduce))) ?_
   refine take_in hb R s t1 t2 out (fun k _ hk=>?_) ?_
   ·rw[hext k]
    intro hc
    have:=(List.append_eq_nil_iff.1 hc).1
    unfold ext at this
    rcases hk with rfl|hk
    ·simp at this
    ·by_cases e:k=lnS s
     ·simp[e] at this
     ·simp[e,hk] at this
   (repeat (first|refine zs rfl ?_|refine zg rfl rfl rfl ?_|refine zd ?_|refine q9 ?_|refine q8 ?_))
   refine⟨(takeR (crs ps) R s,out++[s]),by(exact z7 (by conv=>lhs;reduce)),⟨⟨r1++r2,hp2,fun t ht=>ho t ?_,by simp at hrl ⊢;omega⟩,hFn⟩,by simp;omega⟩
   rw[he]
   rcases List.mem_append.1 ht with ht|ht
   ·exact List.mem_append_left _ ht
   ·exact List.mem_append_right _ (List.mem_cons_of_mem _ ht)
end Go.Proofs.YtjfafggkkjgpeaaGreatDoor
namespace Go.Proofs.YtjfafggkkjgpeaaGreatDoor
open Go Go.RowKit Ox Ox.Se Ox.St
attribute [local irreducible] JC JL JK JW
theorem q9o{X:Nat→Nat→Bool}:∀ (n:Nat) (R:Nat→List Int),(formR X n R).length≤n
 |0,_=>Nat.le_refl _
 |n+1,R=>by
  simp only[formR]
  split
  ·simp
  ·rw[List.length_cons];exact Nat.succ_le_succ (q9o n _)
abbrev shF(ps:List (List Int))(l:List Int):List Int:=formR (crs ps) 60 (plR ps l)
theorem fn12{n:Int}{ps:List (List Int)}{l:List Int}(h:lstE n ps l=0):Ox.Fn Tryz.prog 12 (.acons (vBe n ps) (.acons (vL l) .anil)) (·=.tup (.acons (vL (shF ps l)) (.acons (vI 0) .anil))):=by
 refine Ox.Fn.intro xok Tryz.func12 rfl Tryz.call12 (Nat.le_of_ble_eq_true rfl) (fun E M0 up=>?_)
 refine j4 ?_
 obtain⟨hb,h60,_⟩:=q5x h
 have c27:=fn27 n ps (l::List.nil) hb (fun x hx=>by rw[List.mem_singleton.1 hx];exact h)
 have c29:=fn29 hb (q86 h) h60
 have hfl:(shF ps l).length≤60:=q9o 60 (plR ps l)
 change Ox.Fn Tryz.prog 29 _ (·=vL (shF ps l)) at c29
 generalize shF ps l=F at c29 hfl ⊢
 (repeat (first|refine zs rfl ?_|refine zg rfl rfl rfl ?_|refine zd ?_|refine q9 ?_|refine q8 ?_|refine zc rfl (c27) rfl rfl ?_|refine ze rfl (c27) rfl ?_|refine zk rfl rfl (fun _=>c27) rfl rfl ?_))
 (refine z8k [1] [1,11,13] rfl ?_)
 (repeat (first|refine zs rfl ?_|refine zg rfl rfl rfl ?_|refine zd ?_|refine q9 ?_|refine q8 ?_|refine zc rfl (c27) rfl rfl ?_|refine ze rfl (c27) rfl ?_|refine zk rfl rfl (fun _=>c27) rfl rfl ?_))
 refine z8 rfl (fun h=>absurd h (by decide)) (fun _=>?_)
 have hrep:F.length=(List.replicate (Int.toNat (F.length:Int)) (Ty.int .i64).dflt).length:=by simp
 (repeat (first|refine zs rfl ?_|refine zg rfl rfl rfl ?_|refine zd ?_|refine q9 ?_|refine q8 ?_|refine zc rfl (c29) rfl rfl ?_|refine ze rfl (c29) rfl ?_|refine zk rfl rfl (fun _=>c29) rfl rfl ?_))
 refine⟨.inl rfl,_,_,rfl,trivial,?_⟩
 rfl
theorem fn11{n:Int}{ps:List (List Int)}{l m:List Int}(h:lstE n ps l=0)(h2:lstE n ps m=0):Ox.Fn Tryz.prog 11 (.acons (vBe n ps) (.acons (vL l) (.acons (vL m) .anil))) (·=vI (if shF ps l=shF ps m then 0 else 18)):=by
 refine Ox.Fn.intro xok Tryz.func11 rfl Tryz.call11 (Nat.le_of_ble_eq_true rfl) (fun E M0 up=>?_)
 refine j4 ?_
 obtain⟨hb,h60,_⟩:=q5x h
 obtain⟨_,h62,_⟩:=q5x h2
 have c27:=fn27 n ps (l::m::List.nil) hb (fun x hx=>by
  rcases List.mem_cons.1 hx with rfl|hx
  ·exact h
  ·rw[List.mem_singleton.1 hx];exact h2)
 have c29:=fn29 hb (q86 h) h60
 have c30:=fn29 hb (q86 h2) h62
 change Ox.Fn Tryz.prog 29 _ (·=vL (shF ps l)) at c29
 change Ox.Fn Tryz.prog 29 _ (·=vL (shF ps m)) at c30
 have c28:=fn28 (shF ps l) (shF ps m)
 generalize shF ps l=F at c29 c28 ⊢
 generalize shF ps m=G at c30 c28 ⊢
 (repeat (first|refine zs rfl ?_|refine zg rfl rfl rfl ?_|refine zd ?_|refine q9 ?_|refine q8 ?_|refine zc rfl (c27) rfl rfl ?_|refine ze rfl (c27) rfl ?_|refine zk rfl rfl (fun _=>c27) rfl rfl ?_))
 (refine z8k [1] [1,2,10,13] rfl ?_)
 (repeat (first|refine zs rfl ?_|refine zg rfl rfl rfl ?_|refine zd ?_|refine q9 ?_|refine q8 ?_|refine zc rfl (c27) rfl rfl ?_|refine ze rfl (c27) rfl ?_|refine zk rfl rfl (fun _=>c27) rfl rfl ?_))
 refine z8 rfl (fun h=>absurd h (by decide)) (fun _=>?_)
 (repeat (first|refine zs rfl ?_|refine zg rfl rfl rfl ?_|refine zd ?_|refine q9 ?_|refine q8 ?_|refine zc rfl (c29) rfl rfl ?_|refine ze rfl (c29) rfl ?_|refine zk rfl rfl (fun _=>c29) rfl rfl ?_|refine zc rfl (c30) rfl rfl ?_|refine ze rfl (c30) rfl ?_|refine zk rfl rfl (fun _=>c30) rfl rfl ?_|refine zc rfl (c28) rfl rfl ?_|refine ze rfl (c28) rfl ?_|refine zk rfl rfl (fun _=>c28) rfl rfl ?_))
 refine z8 rfl (fun hc=>?_) (fun hc=>?_)
 ·(repeat (first|refine zs rfl ?_|refine zg rfl rfl rfl ?_|refine zd ?_|refine q9 ?_|refine q8 ?_))
  refine⟨.inl rfl,_,_,rfl,trivial,?_⟩
  have:¬ F=G:=by simpa using hc
  rw[if_neg this]
 ·(repeat (first|refine zs rfl ?_|refine zg rfl rfl rfl ?_|refine zd ?_|refine q9 ?_|refine q8 ?_))
  refine⟨.inl rfl,_,_,rfl,trivial,?_⟩
  have:F=G:=by simpa using hc
  rw[if_pos this]
end Go.Proofs.YtjfafggkkjgpeaaGreatDoor
namespace Go.Proofs.YtjfafggkkjgpeaaGreatDoor
open Go Go.RowKit Ox Ox.Sh Ox.Se
abbrev arT:Ty:=.arr 1000 (.int .i64)
abbrev shT:Ty:=.cons seT (.cons arT (.cons (.int .i64) (.cons arT .nil)))
abbrev shW(P:Int)(l:List Pt)(ov:List Int)(pk:Int)(st:List Int):shT.den:=(mkS P l,ov,pk,st,())
abbrev vHo(P:Int)(l:List Pt)(ov:List Int)(pk:Int)(st:List Int):AV:=.val (.ptr shT) (some (shW P l ov pk st))
abbrev ZA:List Int:=arT.dflt
theorem ZA_eq:ZA=List.replicate 1000 0:=rfl
def tabL(f:Nat→Int):List Int:=(List.range 1000).map f
theorem q38(f:Nat→Int):(tabL f).length=1000:=by simp[tabL]
theorem q5m(f:Nat→Int){k:Nat}(h:k<1000):(tabL f).getD k 0=f k:=by
 unfold tabL
 rw[List.getD_eq_getElem?_getD,List.getElem?_map,List.getElem?_range h];rfl
theorem f9{f g:Nat→Int}(h:∀ k,k<1000→f k=g k):tabL f=tabL g:=by
 unfold tabL
 exact List.map_congr_left fun k hk=>h k (List.mem_range.1 hk)
theorem q2t(f:Nat→Int)(k:Nat)(x:Int):(tabL f).set k x=tabL fun v=>if v=k then x else f v:=by
 refine List.ext_getElem (by simp[tabL]) fun n h1 h2=>?_
 rw[List.getElem_set]
 simp only[tabL,List.getElem_map,List.getElem_range]
 by_cases e:n=k
 ·subst e;simp
 ·rw[if_neg e,if_neg (fun h=>e h.symm)]
theorem map_zero(N:Nat):(List.range N).map (fun _=>(0:Int))=List.replicate N 0:=by
 refine List.ext_getElem (by simp) fun n h1 h2=>?_
 simp
theorem q02:tabL (fun _=>0)=ZA:=(map_zero 1000).trans ZA_eq.symm
theorem tab_ne{f:Nat→Int}:tabL f=ZA↔∀ k,k<1000→f k=0:=by
 constructor
 ·intro h k hk
  have h2:tabL f=tabL fun _=>0:=h.trans q02.symm
  have:=congrArg (fun l=>l.getD k 0) h2
  simp only[q5m _ hk] at this
  exact this
 ·exact fun h=>(f9 h).trans q02
theorem z6q{t:List Int}{i:Nat}(hi:i<t.length)(x:Int)(k:Nat):(t.set i x).getD k 0=if k=i then x else t.getD k 0:=by
 rw[List.getD_eq_getElem?_getD,List.getD_eq_getElem?_getD,List.getElem?_set]
 by_cases h:k=i
 ·subst h;rw[if_pos rfl,if_pos rfl,if_pos hi];rfl
 ·rw[if_neg (fun e=>h e.symm),if_neg h]
theorem tab_take(f:Nat→Int){P:Nat}(hP:P≤1000):(tabL f).take P=(List.range P).map f:=by
 unfold tabL
 rw[← List.map_take,List.take_range,Nat.min_eq_left hP]
section
variable {P:Int}{l:List Pt}
def cg(P:Int)(l:List Pt)(i:Nat)(v:Nat):Int:=if lO l i % P=0 then 0 else(if aT l i=v then 1 else 0)-if eN P l i=v then 1 else 0
def chg(P:Int)(l:List Pt)(k:Nat)(v:Nat):Int:=sm (fun i=>cg P l i v) (List.range k)
def o0(P:Int)(l:List Pt)(k:Nat):Int:=sm (pW P l (-1)) (List.range k)
theorem q2d(g:Nat→Int)(k:Nat):sm g (List.range (k+1))=sm g (List.range k)+g k:=by
 rw[List.range_succ,sm_app];simp[sm]
theorem q8g(k v:Nat):chg P l (k+1) v=chg P l k v+cg P l k v:=q2d _ _
theorem z5h(k:Nat):o0 P l (k+1)=o0 P l k+pW P l (-1) k:=q2d _ _
theorem cg_bd(i v:Nat):-1≤cg P l i v∧cg P l i v≤1:=by
 unfold cg
 split
 ·omega
 ·split<;>split<;>omega
theorem z7g(v:Nat):∀ k:Nat,-(k:Int)≤chg P l k v∧chg P l k v≤k
 |0=>by have:chg P l 0 v=0:=rfl;omega
 |k+1=>by
  have h1:=z7g v k
  have h2:=cg_bd (P:=P) (l:=l) k v
  rw[q8g]
  push_cast
  omega
theorem LA1(hP:1≤P)(hl:okP P l){i:Nat}(hi:i<l.length):LA P l (-1) i=aT l i:=by
 have:=(hl.get hi).1
 unfold LA
 rw[show aT l i - -1-1=aT l i by omega,Int.emod_eq_of_lt (by omega) (by omega)]
theorem LE1(hP:1≤P)(i:Nat):Se.LE P l (-1) i=eN P l i:=by
 have:0≤eN P l i∧eN P l i<P:=q0w hP _
 unfold Se.LE
 rw[show eN P l i - -1-1=eN P l i by omega,Int.emod_eq_of_lt (by omega) (by omega)]
theorem pW1(hP:1≤P)(hl:okP P l){i:Nat}(hi:i<l.length):pW P l (-1) i=lO l i / P+if lO l i % P≠0∧eN P l i<aT l i then 1 else 0:=by
 have ha:=(hl.get hi).1
 have h1:=Int.emod_add_mul_ediv (lO l i) P
 have h2:=q0w hP (lO l i)
 unfold pW eN
 rw[LA1 hP hl hi]
 generalize aT l i=A at *
 generalize lO l i / P=q at *
 generalize lO l i % P=r at *
 have h3:A+lO l i=(A+r)+P*q:=by omega
 rw[h3,Int.add_mul_ediv_left _ _ (by omega:P≠0),Int.add_mul_emod_self_left]
 by_cases h:A+r<P
 ·rw[Int.ediv_eq_zero_of_lt (by omega) h,Int.emod_eq_of_lt (by omega) h,if_neg (by omega)];omega
 ·have e1:(A+r) % P=A+r-P:=by
   rw[← Int.sub_emod_right,Int.emod_eq_of_lt (by omega) (by omega)]
  have e2:(A+r) / P=1:=by
   have:A+r=(A+r-P)+P*1:=by omega
   rw[this,Int.add_mul_ediv_left _ _ (by omega:P≠0),Int.ediv_eq_zero_of_lt (by omega) (by omega)];rfl
  rw[e1,e2,if_pos (by omega)];omega
theorem same_end(hP:1≤P)(hl:okP P l){i:Nat}(hi:i<l.length)(h:lO l i % P=0):eN P l i=aT l i:=by
 have ha:=(hl.get hi).1
 unfold eN
 rw[Int.add_emod,h,Int.add_zero,Int.emod_emod_of_dvd _ (Int.dvd_refl P),Int.emod_eq_of_lt ha.1 ha.2]
theorem pW_bd(hP:1≤P)(hl:okP P l){i:Nat}(hi:i<l.length):0≤pW P l (-1) i∧pW P l (-1) i≤10001:=by
 rw[pW1 hP hl hi]
 have h1:=(hl.get hi).2
 have h2:0≤lO l i / P:=Int.ediv_nonneg (by omega) (by omega)
 have h3:lO l i / P≤lO l i:=Int.ediv_le_self _ (by omega)
 split<;>omega
theorem o0_bd(hP:1≤P)(hl:okP P l):∀ k:Nat,k≤l.length→0≤o0 P l k∧o0 P l k≤10001*k
 |0,_=>by have:o0 P l 0=0:=rfl;omega
 |k+1,h=>by
  have h1:=o0_bd hP hl k (by omega)
  have h2:=pW_bd hP hl (i:=k) (by omega)
  rw[z5h]
  push_cast
  omega
def nw(P:Int)(l:List Pt)(u:Nat):Int:=o0 P l l.length+sm (fun i=>(if aT l i<u then 1 else 0)-if eN P l i<u then 1 else 0) (List.range l.length)
theorem q5p{f g:Nat→Int}{o:List Nat}(h:∀ n∈o,f n=g n):sm f o=sm g o:=by
 unfold sm;rw[List.map_congr_left h]
theorem z5l(hP:1≤P)(hl:okP P l):nw P l 0=o0 P l l.length:=by
 unfold nw
 have e:sm (fun i=>(if aT l i<((0:Nat):Int) then(1:Int) else 0)-if eN P l i<((0:Nat):Int) then 1 else 0) (List.range l.length)=sm (fun _=>0) (List.range l.length):=q5p fun i hi=>by
  have h1:=(hl.get (List.mem_range.1 hi)).1
  have h2:0≤eN P l i∧eN P l i<P:=q0w hP _
  rw[if_neg (by omega),if_neg (by omega)];rfl
 rw[e]
 have:∀ o:List Nat,sm (fun _=>0) o=0:=fun o=>by induction o with
  |nil=>rfl
  |cons a o ih=>rw[u6,ih];rfl
 rw[this];omega
theorem nw_succ(hP:1≤P)(hl:okP P l)(u:Nat):nw P l (u+1)=nw P l u+chg P l l.length u:=by
 unfold nw chg
 rw[Int.add_assoc,← q8x]
 congr 1
 refine q5p fun i hi=>?_
 unfold cg
 by_cases hr:lO l i % P=0
 ·rw[if_pos hr,same_end hP hl (List.mem_range.1 hi) hr]
  split<;>split<;>omega
 ·rw[if_neg hr]
  push_cast
  split<;>split<;>split<;>split<;>(try split)<;>(try split)<;>omega
theorem nw_ov(hP:1≤P)(hl:okP P l){u:Nat}(hu:(u:Int)<P):nw P l (u+1)=ov P l (u:Int):=by
 rw[ov_lin (c:=-1) hP,show(u:Int) - -1-1=u by omega,Int.emod_eq_of_lt (by omega) hu,← z7k,← z7k]
 unfold nw o0
 rw[m7]
 have e1:sm (fun i=>if aT l i<((u+1:Nat):Int) then(1:Int) else 0) (List.range l.length)=sm (fun n=>if LA P l (-1) n≤(u:Int) then 1 else 0) (List.range l.length):=q5p fun i hi=>by
  rw[LA1 hP hl (List.mem_range.1 hi)]
  push_cast
  split<;>split<;>omega
 have e2:sm (fun i=>if eN P l i<((u+1:Nat):Int) then(1:Int) else 0) (List.range l.length)=sm (fun n=>if Se.LE P l (-1) n≤(u:Int) then 1 else 0) (List.range l.length):=q5p fun i hi=>by
  rw[LE1 hP]
  push_cast
  split<;>split<;>omega
 rw[e1,e2]
 omega
theorem ov_bd(hP:1≤P)(hl:okP P l)(u:Int):0≤ov P l u∧ov P l u≤10001*l.length:=by
 have key:∀ k:Nat,k≤l.length→0≤sm (ov1 P l u) (List.range k)∧sm (ov1 P l u) (List.range k)≤10001*k:=by
  intro k
  induction k with
  |zero=>intro _;have:sm (ov1 P l u) (List.range 0)=0:=rfl;omega
  |succ k ih=>
   intro h
   have h0:=ih (by omega)
   have h1:=(hl.get (n:=k) (by omega)).2
   have h2:0≤lO l k / P:=Int.ediv_nonneg (by omega) (by omega)
   have h3:lO l k / P≤lO l k:=Int.ediv_le_self _ (by omega)
   rw[q2d]
   unfold ov1 at h0 ⊢
   push_cast
   split<;>omega
 exact key l.length (Nat.le_refl _)
theorem nw_bd(hP:1≤P)(hl:okP P l){u:Nat}(hu:(u:Int)≤P):0≤nw P l u∧nw P l u≤10001*l.length:=by
 cases u with
 |zero=>
  rw[z5l hP hl]
  exact o0_bd hP hl _ (Nat.le_refl _)
 |succ u=>
  rw[nw_ov hP hl (by omega)]
  exact ov_bd hP hl _
def ovS(P:Int)(l:List Pt)(u:Nat):List Int:=tabL fun v=>if v<u then ov P l (v:Int) else if v=0 then o0 P l l.length else 0
def ovA(P:Int)(l:List Pt):List Int:=tabL fun v=>if (v:Int)<P then ov P l (v:Int) else 0
theorem ovS_zero:ovS P l 0=ZA.set 0 (o0 P l l.length):=by
 have h:(tabL fun _=>0).set 0 (o0 P l l.length)=ZA.set 0 (o0 P l l.length):=congrArg (fun L=>List.set L 0 (o0 P l l.length)) q02
 refine Eq.trans ?_ h
 rw[q2t]
 exact f9 fun k _=>by simp
theorem ovS_succ(hP:1≤P)(hl:okP P l){u:Nat}(hu:(u:Int)<P):ovS P l (u+1)=(ovS P l u).set u (nw P l (u+1)):=by
 unfold ovS
 rw[q2t,nw_ov hP hl hu]
 refine f9 fun k _=>?_
 by_cases e:k=u
 ·subst e;rw[if_pos (by omega),if_pos rfl]
 ·rw[if_neg e]
  by_cases h:k<u
  ·rw[if_pos (by omega),if_pos h]
  ·rw[if_neg (by omega),if_neg h]
theorem ovS_end(hP:1≤P):ovS P l P.toNat=ovA P l:=f9 fun k _=>by
 by_cases h:(k:Int)<P
 ·rw[if_pos (by omega),if_pos h]
 ·rw[if_neg (by omega),if_neg h,if_neg (by omega)]
def chgL(P:Int)(l:List Pt)(k:Nat):List Int:=tabL (chg P l k)
theorem z7h:chgL P l 0=ZA:=(f9 fun k _=>rfl).trans q02
theorem z7i(hP:1≤P)(hP2:P≤1000)(hl:okP P l){i:Nat}(hi:i<l.length)(hr:lO l i % P≠0){X:List Int}(hX:X=(chgL P l i).set (aT l i).toNat (chg P l i (aT l i).toNat+1)) :
  X.set (eN P l i).toNat (X.getD (eN P l i).toNat 0-1)=chgL P l (i+1):=by
 have ha:=(hl.get hi).1
 have he:0≤eN P l i∧eN P l i<P:=q0w hP _
 rw[hX]
 unfold chgL
 rw[q2t,q5m _ (by omega),q2t]
 refine f9 fun k hk=>?_
 rw[q8g]
 unfold cg
 rw[if_neg hr]
 by_cases h1:k=(eN P l i).toNat
 ·rw[if_pos h1]
  by_cases h2:(eN P l i).toNat=(aT l i).toNat
  ·rw[if_pos h2,if_pos (by omega),if_pos (by omega),h1,h2];omega
  ·rw[if_neg h2,if_neg (by omega),if_pos (by omega),h1];omega
 ·rw[if_neg h1]
  by_cases h2:k=(aT l i).toNat
  ·rw[if_pos h2,if_pos (by omega),if_neg (by omega),h2];omega
  ·rw[if_neg h2,if_neg (by omega),if_neg (by omega)];omega
theorem z7j{i:Nat}(hr:lO l i % P=0):chgL P l (i+1)=chgL P l i:=f9 fun k _=>by
 rw[q8g];unfold cg;rw[if_pos hr];omega
theorem z2f:∀ (L:List Int) (a:Int),a≤L.foldl Max.max a∧(∀ x∈L,x≤L.foldl Max.max a)∧(L.foldl Max.max a=a∨L.foldl Max.max a∈L)
 |[],a=>⟨Int.le_refl _,(fun x h=>by cases h),Or.inl rfl⟩
 |y::L,a=>by
  rw[List.foldl_cons]
  obtain⟨h1,h2,h3⟩:=z2f L (Max.max a y)
  generalize L.foldl Max.max (Max.max a y)=m at *
  refine⟨by omega,fun x hx=>?_,?_⟩
  ·rcases List.mem_cons.1 hx with rfl|hx
   ·omega
   ·exact h2 x hx
  ·rcases h3 with h3|h3
   ·rcases Int.le_total a y with h|h
    ·exact Or.inr (List.mem_cons.2 (Or.inl (by omega)))
    ·exact Or.inl (by omega)
   ·exact Or.inr (List.mem_cons_of_mem _ h3)
theorem z5v{xs:List Int}(h:xs≠[]):maxL xs∈xs∧∀ x∈xs,x≤maxL xs:=by
 cases xs with
 |nil=>exact absurd rfl h
 |cons a r=>
  obtain⟨h1,h2,h3⟩:=z2f r a
  refine⟨?_,fun x hx=>?_⟩
  ·rcases h3 with h3|h3
   ·exact List.mem_cons.2 (Or.inl h3)
   ·exact List.mem_cons_of_mem _ h3
  ·rcases List.mem_cons.1 hx with rfl|hx
   ·exact h1
   ·exact h2 x hx
theorem peak_eq(hP:1≤P)(hP2:P≤1000):maxL ((ovA P l).take P.toNat)=pkV P l:=by
 unfold ovA
 rw[tab_take _ (by omega)]
 have hne:(List.range P.toNat).map (fun v:Nat=>if (v:Int)<P then ov P l (v:Int) else 0)≠[]:=by
  intro h
  have:=congrArg List.length h
  simp at this
  omega
 obtain⟨h1,h2⟩:=z5v hne
 generalize maxL ((List.range P.toNat).map (fun v:Nat=>if (v:Int)<P then ov P l (v:Int) else 0))=m at h1 h2 ⊢
 obtain⟨v,hv,rfl⟩:=List.mem_map.1 h1
 have hv':=List.mem_range.1 hv
 rw[if_pos (by omega)] at h2 ⊢
 have hf:=z4y (l:=l) hP
 have h3:=h2 (ov P l (pkA P l:Int)) (List.mem_map.2 ⟨pkA P l,List.mem_range.2 (by have:=hf.1;omega),by rw[if_pos hf.1.2]⟩)
 have h4:=hf.2 v (by omega) (by omega)
 unfold pkV
 omega
theorem z5a(hP:1≤P)(hP2:P≤1000)(h:ovA P l=ZA):pkV P l=0:=by
 have hf:=(z4y (l:=l) hP).1
 have:=tab_ne.1 h (pkA P l) (by omega)
 rwa[if_pos hf.2] at this
def stS(P:Int)(l:List Pt)(u:Nat):List Int:=tabL fun v=>if v<u then(fcn P l v:Int) else 0
def stT(P:Int)(l:List Pt)(u:Nat):List Int:=tabL fun v=>if (v:Int)<P then(if v<u then(stN P l v:Int) else fcn P l v) else 0
def stA(P:Int)(l:List Pt):List Int:=tabL fun v=>if (v:Int)<P then(stN P l v:Int) else 0
theorem stS_zero:stS P l 0=ZA:=(f9 fun k _=>by simp).trans q02
theorem stS_succ(u:Nat):stS P l (u+1)=(stS P l u).set u (fcn P l u:Int):=by
 unfold stS
 rw[q2t]
 refine f9 fun k _=>?_
 by_cases e:k=u
 ·subst e;rw[if_pos (by omega),if_pos rfl]
 ·rw[if_neg e]
  by_cases h:k<u
  ·rw[if_pos (by omega),if_pos h]
  ·rw[if_neg (by omega),if_neg h]
theorem stT_zero(hP:1≤P):stS P l P.toNat=stT P l 0:=f9 fun k _=>by
 by_cases h:(k:Int)<P
 ·rw[if_pos (by omega),if_pos h,if_neg (by omega)]
 ·rw[if_neg (by omega),if_neg h]
theorem stT_get{u:Nat}(hu:(u:Int)<P)(hP2:P≤1000):(stT P l u).getD u 0=fcn P l u:=by
 unfold stT
 rw[q5m _ (by omega),if_pos hu,if_neg (by omega)]
theorem stT_hit{u:Nat}(hu:(u:Int)<P)(h:fcn P l u=fcn P l P.toNat):stT P l (u+1)=(stT P l u).set u 0:=by
 unfold stT
 rw[q2t]
 refine f9 fun k _=>?_
 by_cases e:k=u
 ·subst e;rw[if_pos hu,if_pos (by omega),if_pos rfl];unfold stN;rw[if_pos h];rfl
 ·rw[if_neg e]
  by_cases h:(k:Int)<P
  ·rw[if_pos h,if_pos h]
   by_cases h2:k<u
   ·rw[if_pos (by omega),if_pos h2]
   ·rw[if_neg (by omega),if_neg h2]
  ·rw[if_neg h,if_neg h]
theorem stT_miss{u:Nat}(h:fcn P l u≠fcn P l P.toNat):stT P l (u+1)=stT P l u:=f9 fun k _=>by
 by_cases h1:(k:Int)<P
 ·rw[if_pos h1,if_pos h1]
  by_cases e:k=u
  ·subst e;rw[if_pos (by omega),if_neg (by omega)];unfold stN;rw[if_neg h]
  ·by_cases h2:k<u
   ·rw[if_pos (by omega),if_pos h2]
   ·rw[if_neg (by omega),if_neg h2]
 ·rw[if_neg h1,if_neg h1]
theorem stT_end(hP:1≤P):stT P l P.toNat=stA P l:=f9 fun k _=>by
 by_cases h:(k:Int)<P
 ·rw[if_pos h,if_pos h,if_pos (by omega)]
 ·rw[if_neg h,if_neg h]
theorem z6x(u:Nat):fcn P l u≤u:=by
 have:=List.countP_le_length (p:=flB P l) (l:=List.range u)
 rw[List.length_range] at this
 exact this
theorem o0_zero:o0 P l 0=0:=rfl
theorem z2m(k:Nat){v:Nat}(h:v<1000):(chgL P l k).getD v 0=chg P l k v:=q5m _ h
theorem z2l(k:Nat):(chgL P l k).length=1000:=q38 _
theorem ovS_len(u:Nat):(ovS P l u).length=1000:=q38 _
theorem z5d:(ovA P l).length=1000:=q38 _
theorem ovA_get{v:Nat}(h:v<1000):(ovA P l).getD v 0=if (v:Int)<P then ov P l (v:Int) else 0:=q5m _ h
theorem stS_len(u:Nat):(stS P l u).length=1000:=q38 _
theorem stT_len(u:Nat):(stT P l u).length=1000:=q38 _
abbrev shV(P:Int)(l:List Pt):shT.den:=shW P l (ovA P l) (pkV P l) (stA P l)
abbrev vH(P:Int)(l:List Pt):AV:=.val (.ptr shT) (some (shV P l))
end
end Go.Proofs.YtjfafggkkjgpeaaGreatDoor
namespace Go.Proofs.YtjfafggkkjgpeaaGreatDoor
open Go Go.RowKit Ox Ox.Sh Ox.Se
attribute [local irreducible] JC JL JK JW
attribute [local irreducible] ovS ovA chgL stS stT stA tabL nw o0 chg
theorem eqA:EqT Tryz.prog arT 72:=.of (by decide +kernel)
theorem fn60(P:Int)(l:List Pt)(ov:List Int)(pk:Int)(st:List Int)(n:Nat)(hP:1≤P∧P≤1000)(hl:okP P l)(hn:n<l.length):Ox.Fn Tryz.prog 60 (.acons (vHo P l ov pk st) (.acons (vI n) .anil)) (·=vI (eN P l n)):=by
 obtain⟨h1,h2⟩:=z4u hl hn
 refine Ox.Fn.intro xok Tryz.func60 rfl Tryz.call60 (Nat.le_of_ble_eq_true rfl) (fun E M0 up=>?_)
 refine j4 ?_
 (repeat (first|refine zs rfl ?_|refine zg rfl rfl rfl ?_|refine zd ?_|refine q9 ?_|refine q8 ?_|refine zne eqA rfl rfl rfl ?_))
 refine⟨.inl rfl,_,_,rfl,trivial,?_⟩
 rfl
set_option maxHeartbeats 4000000 in
theorem fn71(P:Int)(l:List Pt)(hz:seE P l=0):Ox.Fn Tryz.prog 71 (.acons (vS P l) .anil) (·=vH P l):=by
 obtain⟨hP,h1,h8,hl⟩:=q7o.1 hz
 refine Ox.Fn.intro xok Tryz.func71 rfl Tryz.call71 (Nat.le_of_ble_eq_true rfl) (fun E M0 up=>?_)
 refine j4 ?_
 (repeat (first|refine zs rfl ?_|refine zg rfl rfl rfl ?_|refine zd ?_|refine q9 ?_|refine q8 ?_|refine zne eqA rfl rfl rfl ?_))
 refine JK.loop (fun i:Nat=>⟨[(1,.lf (.optr 0 [])),(3,.lf (.optr 1 [])),(4,.lf (.optr 2 [])),(5,.lf (.optr 3 [])),(19,vD l),(20,vI l.length),(21,vI (i:Int))],[(0,.cell seT (vS P l)),(1,.cell shT (.val shT (shW P l (ZA.set 0 (o0 P l i)) 0 ZA))),(2,.cell arT (.val arT ZA)),(3,.cell arT (.val arT (chgL P l i)))],4⟩)
  (fun i=>i≤l.length) (fun i=>l.length-i) 0 (Nat.zero_le _) ?_ fun i hi=>?_
 ·have e1:ZA.set 0 (o0 P l 0)=ZA:=(congrArg (fun z=>ZA.set 0 z) o0_zero).trans<|(congrArg (fun L=>List.set L 0 (0:Int)) q02.symm).trans ((q2t _ _ _).trans ((f9 fun k _=>by simp).trans q02))
  rw[e1,z7h]
  (exact z7 (by conv=>lhs;reduce))
 ·have hob:=o0_bd hP.1 hl i hi
  have hcb:=fun v=>z7g (P:=P) (l:=l) v i
  have hg:∀ v:Nat,v<1000→(chgL P l i).getD v 0=chg P l i v:=fun v hv=>z2m i hv
  have hcl:(chgL P l i).length=1000:=z2l i
  have hz0:(ZA.set 0 (o0 P l i)).getD 0 0=o0 P l i:=rfl
  have hz0b:(ZA.set 0 (o0 P l i)).getD (Int.toNat 0) 0=o0 P l i:=rfl
  have hstep:=fun(h:i<l.length) (hr:lO l i % P≠0)=>z7i (X:=(chgL P l i).set (aT l i).toNat (chg P l i (aT l i).toNat+1)) hP.1 hP.2 hl h hr rfl
  have hsame:=fun(hr:lO l i % P=0)=>z7j (P:=P) (l:=l) (i:=i) hr
  have hos:=fun(h:i<l.length)=>(z5h (P:=P) (l:=l) i).trans (congrArg (fun z=>o0 P l i+z) (pW1 hP.1 hl h))
  (repeat (first|refine zs rfl ?_|refine zg rfl rfl rfl ?_|refine zd ?_|refine q9 ?_|refine q8 ?_|refine zne eqA rfl rfl rfl ?_))
  refine z8 rfl (fun hc=>?_) (fun hc=>?_)
  ·(simp only[↓cdL] at hc;try simp only[Ty.dflt,Int.toNat_natCast] at hc)
   have hi':i<l.length:=by omega
   obtain⟨b1,b2⟩:=z4u hl hi'
   have c91:=fn60 P l (ZA.set 0 (o0 P l i)) 0 ZA i hP hl hi'
   have hre:eN P l i=((l.getD i (0,0,())).1+(l.getD i (0,0,())).2.1) % P:=rfl
   have heb:0≤eN P l i∧eN P l i<P:=q0w hP.1 _
   have hzs:∀ y,(ZA.set 0 (o0 P l i)).set 0 y=ZA.set 0 y:=fun y=>List.set_set ..
   have hzl:(ZA.set 0 (o0 P l i)).length=1000:=by rw[List.length_set];exact(congrArg List.length q02.symm).trans (q38 _)
   generalize ZA.set 0 (o0 P l i)=X at c91 hz0 hz0b hzs hzl ⊢
   generalize chgL P l i=C at hg hcl hstep hsame ⊢
   replace hos:=hos hi'
   replace hstep:=hstep hi'
   have ea:aT l i=(l.getD i (0,0,())).1:=rfl
   have eb:lO l i=(l.getD i (0,0,())).2.1:=rfl
   rw[ea,eb] at hstep hos
   rw[eb] at hsame
   (repeat (first|refine zs rfl ?_|refine zg rfl rfl rfl ?_|refine q9 ?_|refine q8 ?_|refine zne eqA rfl rfl rfl ?_|refine zc rfl (c91) rfl rfl ?_|refine ze rfl (c91) rfl ?_|refine zk rfl rfl (fun _=>c91) rfl rfl ?_))
   refine q1w (s':=⟨[(1,.lf (.optr 0 [])),(3,.lf (.optr 1 [])),(4,.lf (.optr 2 [])),(5,.lf (.optr 3 [])),(7,.lf (.optr 4 [])),(8,vI (eN P l i)),(19,vD l),(20,vI l.length),(21,vI (i:Int))],[(0,.cell seT (vS P l)),(1,.cell shT (.val shT (shW P l X 0 ZA))),(2,.cell arT (.val arT ZA)),(3,.cell arT (.val arT C)),(4,.cell ptT (vP (l.getD i (0,0,()))))],5⟩) (by(exact z7 (by conv=>lhs;reduce))) ?_
   generalize l.getD i (0,0,())=s at b1 b2 hre hstep hsame hos ⊢
   obtain⟨a,b,_⟩:=s
   dsimp only at b1 b2 hre hstep hsame hos ⊢
   have hbp:0≤b / P:=Int.ediv_nonneg (by omega) (by omega)
   have hbp2:b / P≤b:=Int.ediv_le_self _ (by omega)
   refine s8 xk (Tryz.f71.body.getD .skip) ⟨[(1,.lf (.optr 0 [])),(3,.lf (.optr 1 [])),(4,.lf (.optr 2 [])),(5,.lf (.optr 3 [])),(7,.lf (.optr 4 [])),(8,vI (eN P l i)),(19,vD l),(20,vI l.length),(21,vI (i:Int))],[(0,.cell seT (vS P l)),(1,.cell shT (.val shT (shW P l (X.set 0 (X.getD 0 0+b / P)) 0 ZA))),(2,.cell arT (.val arT ZA)),(3,.cell arT (.val arT C)),(4,.cell ptT (vP (a,b,())))],5⟩ rfl 15 rfl ?_ ?_
   ·(refine z5 0 xk rfl rfl ?_;refine z5 1 xk rfl rfl ?_;refine z5 2 xk rfl rfl ?_;refine z5 3 xk rfl rfl ?_;refine z5 5 xk rfl rfl ?_;refine z5 7 xk rfl rfl ?_;refine z5 11 xk rfl rfl ?_;refine z5 12 xk rfl rfl ?_;refine z9 4 xk rfl rfl ?_;refine z9 6 xk rfl rfl ?_;refine z9 8 xk rfl rfl ?_;refine z9 9 xk rfl rfl ?_;refine z9 10 xk rfl rfl ?_;refine z9 13 xk rfl rfl ?_;refine j3 14 [] xk ?_ ?_;(focus (repeat (first|exact StF.nil|refine j7 rfl rfl rfl ?_)));refine(BrF.one rfl rfl ?_ BrF.nil);(· (first|refine x8 xk rfl rfl rfl ?_|refine d9 xk rfl rfl ?_|refine JL.M0 xk rfl ?_|refine g8 eqA rfl rfl rfl ?_);refine j8 ?_;refine y9 xk StF.nil ?_;((exact z7 (by conv=>lhs;reduce)))))
   ·rw[hzs,hz0]
    (repeat (first|refine zs rfl ?_|refine zg rfl rfl rfl ?_|refine zd ?_|refine q9 ?_|refine q8 ?_|refine zne eqA rfl rfl rfl ?_))
    refine z8 rfl (fun hr=>?_) (fun hr=>?_)
    ·(simp only[↓cdL] at hr;try simp only[Ty.dflt,Int.toNat_natCast] at hr)
     (repeat (first|refine zs rfl ?_|refine zg rfl rfl rfl ?_|refine zd ?_|refine q9 ?_|refine q8 ?_|refine zne eqA rfl rfl rfl ?_))
     refine⟨i+1,?_,by omega,by omega⟩
     rw[hsame hr,hos,if_neg (by omega),Int.add_zero]
     (exact z7 (by conv=>lhs;reduce))
    ·(simp only[↓cdL] at hr;try simp only[Ty.dflt,Int.toNat_natCast] at hr)
     replace hstep:=hstep hr
     rw[← hg _ (by omega)] at hstep
     have hga:=hg a.toNat (by omega)
     have hba:=hcb a.toNat
     have hbe:=hcb (eN P l i).toNat
     have hge:((C.set a.toNat (C.getD a.toNat 0+1)).getD (eN P l i).toNat 0)=if (eN P l i).toNat=a.toNat then chg P l i a.toNat+1 else chg P l i (eN P l i).toNat:=by
      rw[z6q (by omega),hga,hg _ (by omega)]
     have hle:(C.set a.toNat (C.getD a.toNat 0+1)).length=1000:=by rw[List.length_set];exact hcl
     have hgb:-9≤(C.set a.toNat (C.getD a.toNat 0+1)).getD (eN P l i).toNat 0∧(C.set a.toNat (C.getD a.toNat 0+1)).getD (eN P l i).toNat 0≤9:=by
      rw[hge];split<;>omega
     clear hge
     generalize eN P l i=e at *
     (repeat (first|refine zs rfl ?_|refine zg rfl rfl rfl ?_|refine zd ?_|refine q9 ?_|refine q8 ?_|refine zne eqA rfl rfl rfl ?_))
     refine z8 rfl (fun he=>?_) (fun he=>?_)
     ·(simp only[↓cdL] at he;try simp only[Ty.dflt,Int.toNat_natCast] at he)
      rw[if_pos ⟨hr,he⟩] at hos
      refine q1w (s':=⟨[(1,.lf (.optr 0 [])),(3,.lf (.optr 1 [])),(4,.lf (.optr 2 [])),(5,.lf (.optr 3 [])),(19,vD l),(20,vI l.length),(21,vI (i:Int))],[(0,.cell seT (vS P l)),(1,.cell shT (.val shT (shW P l (ZA.set 0 (o0 P l i+b / P)) 0 ZA))),(2,.cell arT (.val arT ZA)),(3,.cell arT (.val arT ((C.set a.toNat (C.getD a.toNat 0+1)).set e.toNat ((C.set a.toNat (C.getD a.toNat 0+1)).getD e.toNat 0-1))))],4⟩) (by(exact z7 (by conv=>lhs;reduce))) ?_
      rw[hstep]
      have hy0:(ZA.set 0 (o0 P l i+b / P)).getD (Int.toNat 0) 0=o0 P l i+b / P:=rfl
      have hys:∀ y,(ZA.set 0 (o0 P l i+b / P)).set 0 y=ZA.set 0 y:=fun y=>List.set_set ..
      have hyl:(ZA.set 0 (o0 P l i+b / P)).length=1000:=by rw[← hzs];rw[List.length_set];exact hzl
      generalize ZA.set 0 (o0 P l i+b / P)=Y at hy0 hys hyl ⊢
      refine q8n xk (Tryz.f71.body.getD .skip) ⟨[(1,.lf (.optr 0 [])),(3,.lf (.optr 1 [])),(4,.lf (.optr 2 [])),(5,.lf (.optr 3 [])),(19,vD l),(20,vI l.length),(21,vI (i:Int))],[(0,.cell seT (vS P l)),(1,.cell shT (.val shT (shW P l (Y.set 0 (Y.getD 0 0+1)) 0 ZA))),(2,.cell arT (.val arT ZA)),(3,.cell arT (.val arT (chgL P l (i+1))))],4⟩ rfl 10 rfl ?_ ?_
      ·(refine z5 0 xk rfl rfl ?_;refine z5 1 xk rfl rfl ?_;refine z5 2 xk rfl rfl ?_;refine z5 3 xk rfl rfl ?_;refine z5 6 xk rfl rfl ?_;refine z5 7 xk rfl rfl ?_;refine z9 4 xk rfl rfl ?_;refine z9 5 xk rfl rfl ?_;refine z9 8 xk rfl rfl ?_;refine j3 9 [] xk ?_ ?_;(focus (repeat (first|exact StF.nil|refine j7 rfl rfl rfl ?_)));refine(BrF.one rfl rfl ?_ BrF.nil);(· (first|refine x8 xk rfl rfl rfl ?_|refine d9 xk rfl rfl ?_|refine JL.M0 xk rfl ?_|refine g8 eqA rfl rfl rfl ?_);refine j8 ?_;refine y9 xk StF.nil ?_;((exact z7 (by conv=>lhs;reduce)))))
      ·have e2:Y.getD 0 0=o0 P l i+b / P:=hy0
       rw[hys,e2,Int.add_assoc,← hos]
       (repeat (first|refine zs rfl ?_|refine zg rfl rfl rfl ?_|refine zd ?_|refine q9 ?_|refine q8 ?_|refine zne eqA rfl rfl rfl ?_))
       exact⟨i+1,by(exact z7 (by conv=>lhs;reduce)),by omega,by omega⟩
     ·(simp only[↓cdL] at he;try simp only[Ty.dflt,Int.toNat_natCast] at he)
      rw[if_neg (fun h=>he h.2),Int.add_zero] at hos
      refine q1w (s':=⟨[(1,.lf (.optr 0 [])),(3,.lf (.optr 1 [])),(4,.lf (.optr 2 [])),(5,.lf (.optr 3 [])),(19,vD l),(20,vI l.length),(21,vI (i:Int))],[(0,.cell seT (vS P l)),(1,.cell shT (.val shT (shW P l (ZA.set 0 (o0 P l i+b / P)) 0 ZA))),(2,.cell arT (.val arT ZA)),(3,.cell arT (.val arT ((C.set a.toNat (C.getD a.toNat 0+1)).set e.toNat ((C.set a.toNat (C.getD a.toNat 0+1)).getD e.toNat 0-1))))],4⟩) (by(exact z7 (by conv=>lhs;reduce))) ?_
      rw[hstep,← hos]
      (repeat (first|refine zs rfl ?_|refine zg rfl rfl rfl ?_|refine zd ?_|refine q9 ?_|refine q8 ?_|refine zne eqA rfl rfl rfl ?_))
      exact⟨i+1,by(exact z7 (by conv=>lhs;reduce)),by omega,by omega⟩
  ·(simp only[↓cdL] at hc;try simp only[Ty.dflt,Int.toNat_natCast] at hc)
   have hil:i=l.length:=by omega
   clear hg hcl hz0 hz0b hstep hsame hos hcb hc
   rw[hil]
   have hz1:ZA.set 0 (o0 P l l.length)=ovS P l 0:=ovS_zero.symm
   have hz2:(ZA.set 0 (o0 P l l.length)).getD 0 0=nw P l 0:=(z5l hP.1 hl).symm
   rw[hz1] at hz2 ⊢
   (repeat (first|refine zs rfl ?_|refine zg rfl rfl rfl ?_|refine zd ?_|refine q9 ?_|refine q8 ?_|refine zne eqA rfl rfl rfl ?_))
   refine JK.loop (fun u:Nat=>⟨[(1,.lf (.optr 0 [])),(3,.lf (.optr 1 [])),(4,.lf (.optr 2 [])),(5,.lf (.optr 3 [])),(9,vI (nw P l u)),(80,vI P),(81,vI (u:Int))],[(0,.cell seT (vS P l)),(1,.cell shT (.val shT (shW P l (ovS P l u) 0 ZA))),(2,.cell arT (.val arT ZA)),(3,.cell arT (.val arT (chgL P l l.length)))],4⟩)
    (fun u=>(u:Int)≤P) (fun u=>P.toNat-u) 0 (by omega) ?_ fun u hu=>?_
   ·rw[← hz2];(exact z7 (by conv=>lhs;reduce))
   ·have hb1:=nw_bd hP.1 hl hu
    have hb2:=z7g (P:=P) (l:=l) u l.length
    have hg:u<1000→(chgL P l l.length).getD u 0=chg P l l.length u:=fun hv=>z2m _ hv
    have hcl:(chgL P l l.length).length=1000:=z2l _
    have hol:(ovS P l u).length=1000:=ovS_len u
    have hns:=nw_succ hP.1 hl u
    have hos:=fun h=>ovS_succ hP.1 hl (u:=u) h
    (repeat (first|refine zs rfl ?_|refine zg rfl rfl rfl ?_|refine zd ?_|refine q9 ?_|refine q8 ?_|refine zne eqA rfl rfl rfl ?_))
    refine z8 rfl (fun hd=>?_) (fun hd=>?_)
    ·(simp only[↓cdL] at hd;try simp only[Ty.dflt,Int.toNat_natCast] at hd)
     have hgu:=hg (by omega)
     replace hos:=hos hd
     rw[hns,← hgu] at hos
     rw[← hgu] at hns hb2
     (repeat (first|refine zs rfl ?_|refine zg rfl rfl rfl ?_|refine zd ?_|refine q9 ?_|refine q8 ?_|refine zne eqA rfl rfl rfl ?_))
     refine⟨u+1,?_,by push_cast;omega,by omega⟩
     rw[hos,hns]
     (exact z7 (by conv=>lhs;reduce))
    ·(simp only[↓cdL] at hd;try simp only[Ty.dflt,Int.toNat_natCast] at hd)
     have hup:u=P.toNat:=by omega
     rw[hup,ovS_end hP.1]
     clear hg hcl hns hos hb1 hb2 hol
     refine q1w (s':=⟨[(1,.lf (.optr 0 [])),(3,.lf (.optr 1 [])),(4,.lf (.optr 2 [])),(80,vI P)],[(0,.cell seT (vS P l)),(1,.cell shT (.val shT (shW P l (ovA P l) 0 ZA))),(2,.cell arT (.val arT ZA))],3⟩) (by(exact z7 (by conv=>lhs;reduce))) ?_
     (repeat (first|refine zu rfl ?_|refine zg rfl rfl rfl ?_|refine zd ?_|refine q9 ?_|refine q8 ?_|refine zne eqA rfl rfl rfl ?_))
     refine JK.cut (σ:=Unit) (fun _=>⟨[(1,.lf (.optr 0 [])),(3,.lf (.optr 1 []))],[(0,.cell seT (vS P l)),(1,.cell shT (.val shT (shW P l (ovA P l) (pkV P l) ZA)))],2⟩) (fun _=>True) ?_ (fun _ _=>?_)
     ·have c106:=fn137 ((ovA P l).take P.toNat) (by rw[List.length_take,z5d];omega)
      rw[peak_eq hP.1 hP.2] at c106
      (repeat (first|refine zs rfl ?_|refine zg rfl rfl rfl ?_|refine zd ?_|refine q9 ?_|refine q8 ?_|refine zne eqA rfl rfl rfl ?_))
      refine z8 rfl (fun hf=>?_) (fun hf=>?_)
      ·refine q31 xk (Tryz.f71.body.getD .skip) rfl 11 rfl ?_
       (refine z5 0 xk rfl rfl ?_;refine z5 1 xk rfl rfl ?_;refine z5 2 xk rfl rfl ?_;refine z5 3 xk rfl rfl ?_;refine z5 4 xk rfl rfl ?_;refine z9 5 xk rfl rfl ?_;refine z9 6 xk rfl rfl ?_;refine j3 7 [] xk ?_ ?_;(focus (repeat (first|exact StF.nil|refine j7 rfl rfl rfl ?_)));refine(BrF.one rfl rfl ?_ BrF.nil);(· (first|refine x8 xk rfl rfl rfl ?_|refine d9 xk rfl rfl ?_|refine JL.M0 xk rfl ?_|refine g8 eqA rfl rfl rfl ?_|refine p9 rfl (c106) rfl trivial rfl ?_|refine y5 rfl rfl (fun hgd=>c106) rfl trivial rfl ?_);refine j8 ?_;refine z9 8 xk rfl rfl ?_;refine z9 9 xk rfl rfl ?_;refine j3 10 [] xk ?_ ?_;(focus (repeat (first|exact StF.nil|refine j7 rfl rfl rfl ?_)));refine(BrF.one rfl rfl ?_ BrF.nil);(· (first|refine x8 xk rfl rfl rfl ?_|refine d9 xk rfl rfl ?_|refine JL.M0 xk rfl ?_|refine g8 eqA rfl rfl rfl ?_|refine p9 rfl (c106) rfl trivial rfl ?_|refine y5 rfl rfl (fun hgd=>c106) rfl trivial rfl ?_);refine j8 ?_;refine y9 xk ?_ ?_;(focus (repeat (first|exact StF.nil|refine j7 rfl rfl rfl ?_)));((refine q9 ?_;exact⟨(),by(exact z7 (by conv=>lhs;reduce)),trivial⟩)))))
      ·have hz:ovA P l=ZA:=by
        have h2:arT.eqB (ovA P l) ZA=true:=by simpa using hf
        exact x3.1 h2
       rw[z5a hP.1 hP.2 hz]
       (repeat (first|refine zs rfl ?_|refine zg rfl rfl rfl ?_|refine zd ?_|refine q9 ?_|refine q8 ?_|refine zne eqA rfl rfl rfl ?_))
       exact⟨(),by(exact z7 (by conv=>lhs;reduce)),trivial⟩
     ·have hol:=z5d (P:=P) (l:=l)
      (repeat (first|refine zs rfl ?_|refine zg rfl rfl rfl ?_|refine zd ?_|refine q9 ?_|refine q8 ?_|refine zne eqA rfl rfl rfl ?_))
      refine JK.loop (fun u:Nat=>⟨[(1,.lf (.optr 0 [])),(3,.lf (.optr 1 [])),(11,vI (fcn P l u:Nat)),(113,vI P),(114,vI (u:Int))],[(0,.cell seT (vS P l)),(1,.cell shT (.val shT (shW P l (ovA P l) (pkV P l) (stS P l u))))],2⟩)
       (fun u=>(u:Int)≤P) (fun u=>P.toNat-u) 0 (by omega) ?_ fun u hu=>?_
      ·rw[stS_zero,show fcn P l 0=0 from rfl];(exact z7 (by conv=>lhs;reduce))
      ·have hsl:=stS_len (P:=P) (l:=l) u
       have hfb:=z6x (P:=P) (l:=l) u
       have hss:=stS_succ (P:=P) (l:=l) u
       have hfs:=fcn_succ (P:=P) (l:=l) u
       have hog:=fun h=>ovA_get (P:=P) (l:=l) (v:=u) h
       (repeat (first|refine zs rfl ?_|refine zg rfl rfl rfl ?_|refine zd ?_|refine q9 ?_|refine q8 ?_|refine zne eqA rfl rfl rfl ?_))
       refine z8 rfl (fun hd=>?_) (fun hd=>?_)
       ·(simp only[↓cdL] at hd;try simp only[Ty.dflt,Int.toNat_natCast] at hd)
        replace hog:=hog (by omega)
        rw[if_pos hd] at hog
        have hfl:flB P l u=decide ((ovA P l).getD u 0=pkV P l):=by rw[hog];rfl
        (repeat (first|refine zs rfl ?_|refine zg rfl rfl rfl ?_|refine zd ?_|refine q9 ?_|refine q8 ?_|refine zne eqA rfl rfl rfl ?_))
        refine z8 rfl (fun hf=>?_) (fun hf=>?_)
        ·(simp only[↓cdL] at hf;try simp only[Ty.dflt,Int.toNat_natCast] at hf)
         rw[hfl,if_pos (decide_eq_true hf)] at hfs
         (repeat (first|refine zs rfl ?_|refine zg rfl rfl rfl ?_|refine zd ?_|refine q9 ?_|refine q8 ?_|refine zne eqA rfl rfl rfl ?_))
         refine⟨u+1,?_,by push_cast;omega,by omega⟩
         rw[hss,hfs]
         (exact z7 (by conv=>lhs;reduce))
        ·(simp only[↓cdL] at hf;try simp only[Ty.dflt,Int.toNat_natCast] at hf)
         rw[hfl,decide_eq_false hf,if_neg (by decide),Nat.add_zero] at hfs
         (repeat (first|refine zs rfl ?_|refine zg rfl rfl rfl ?_|refine zd ?_|refine q9 ?_|refine q8 ?_|refine zne eqA rfl rfl rfl ?_))
         refine⟨u+1,?_,by push_cast;omega,by omega⟩
         rw[hss,hfs]
         (exact z7 (by conv=>lhs;reduce))
       ·(simp only[↓cdL] at hd;try simp only[Ty.dflt,Int.toNat_natCast] at hd)
        have hup2:u=P.toNat:=by omega
        rw[hup2,stT_zero hP.1]
        clear hsl hfb hss hfs hog
        have hN:=z6x (P:=P) (l:=l) P.toNat
        (repeat (first|refine zs rfl ?_|refine zg rfl rfl rfl ?_|refine zd ?_|refine q9 ?_|refine q8 ?_|refine zne eqA rfl rfl rfl ?_))
        refine JK.loop (fun u:Nat=>⟨[(1,.lf (.optr 0 [])),(3,.lf (.optr 1 [])),(11,vI (fcn P l P.toNat:Nat)),(138,vI P),(139,vI (u:Int))],[(0,.cell seT (vS P l)),(1,.cell shT (.val shT (shW P l (ovA P l) (pkV P l) (stT P l u))))],2⟩)
         (fun u=>(u:Int)≤P) (fun u=>P.toNat-u) 0 (by omega) (by(exact z7 (by conv=>lhs;reduce))) fun u hu=>?_
        have hsl:=stT_len (P:=P) (l:=l) u
        have hfb:=z6x (P:=P) (l:=l) u
        have hsg:=fun h=>stT_get (P:=P) (l:=l) (u:=u) h hP.2
        have hst:=fun h=>stT_hit (P:=P) (l:=l) (u:=u) h
        have hsm:=fun h=>stT_miss (P:=P) (l:=l) (u:=u) h
        (repeat (first|refine zs rfl ?_|refine zg rfl rfl rfl ?_|refine zd ?_|refine q9 ?_|refine q8 ?_|refine zne eqA rfl rfl rfl ?_))
        refine z8 rfl (fun hd=>?_) (fun hd=>?_)
        ·(simp only[↓cdL] at hd;try simp only[Ty.dflt,Int.toNat_natCast] at hd)
         replace hsg:=hsg hd
         have hsgb:-1≤(stT P l u).getD u 0:=by rw[hsg];omega
         (repeat (first|refine zs rfl ?_|refine zg rfl rfl rfl ?_|refine zd ?_|refine q9 ?_|refine q8 ?_|refine zne eqA rfl rfl rfl ?_))
         refine z8 rfl (fun hf=>?_) (fun hf=>?_)
         ·(simp only[↓cdL] at hf;try simp only[Ty.dflt,Int.toNat_natCast] at hf)
          rw[hsg] at hf
          (repeat (first|refine zs rfl ?_|refine zg rfl rfl rfl ?_|refine zd ?_|refine q9 ?_|refine q8 ?_|refine zne eqA rfl rfl rfl ?_))
          refine⟨u+1,?_,by push_cast;omega,by omega⟩
          rw[hst hd (by omega)]
          (exact z7 (by conv=>lhs;reduce))
         ·(simp only[↓cdL] at hf;try simp only[Ty.dflt,Int.toNat_natCast] at hf)
          rw[hsg] at hf
          (repeat (first|refine zs rfl ?_|refine zg rfl rfl rfl ?_|refine zd ?_|refine q9 ?_|refine q8 ?_|refine zne eqA rfl rfl rfl ?_))
          refine⟨u+1,?_,by push_cast;omega,by omega⟩
          rw[hsm (by omega)]
          (exact z7 (by conv=>lhs;reduce))
        ·(simp only[↓cdL] at hd;try simp only[Ty.dflt,Int.toNat_natCast] at hd)
         have hup3:u=P.toNat:=by omega
         rw[hup3,stT_end hP.1]
         (repeat (first|refine zs rfl ?_|refine zg rfl rfl rfl ?_|refine zd ?_|refine q9 ?_|refine q8 ?_|refine zne eqA rfl rfl rfl ?_))
         refine⟨.inl rfl,_,_,rfl,trivial,?_⟩
         rfl
end Go.Proofs.YtjfafggkkjgpeaaGreatDoor
namespace Go.Proofs.YtjfafggkkjgpeaaGreatDoor
open Go Go.RowKit Ox Ox.Sh Ox.Se
attribute [local irreducible] JC JL JK JW
attribute [local irreducible] ovA stA pkV
abbrev vOp(P:Int)(l:List Pt):AV:=.tup (.acons (.val (.ptr shT) (if seE P l=0 then some (shV P l) else none)) (.acons (vI (seE P l)) .anil))
theorem fn32(P:Int)(l:List Pt):Ox.Fn Tryz.prog 32 (.acons (vS P l) .anil) (·=vOp P l):=by
 refine Ox.Fn.intro xok Tryz.func32 rfl Tryz.call32 (Nat.le_of_ble_eq_true rfl) (fun E M0 up=>?_)
 refine j4 ?_
 (repeat (first|refine zs rfl ?_|refine zg rfl rfl rfl ?_|refine zd ?_|refine q9 ?_|refine q8 ?_|refine zc rfl (fn70 P l) rfl rfl ?_|refine ze rfl (fn70 P l) rfl ?_|refine zk rfl rfl (fun _=>fn70 P l) rfl rfl ?_))
 refine z8 rfl (fun hc=>?_) (fun hc=>?_)
 ·(simp only[↓cdL] at hc;try simp only[Ty.dflt,Int.toNat_natCast] at hc)
  (repeat (first|refine zs rfl ?_|refine zg rfl rfl rfl ?_|refine zd ?_|refine q9 ?_|refine q8 ?_))
  refine⟨.inl rfl,_,_,rfl,trivial,?_⟩
  unfold vOp
  rw[if_neg hc]
 ·(simp only[↓cdL] at hc;try simp only[Ty.dflt,Int.toNat_natCast] at hc)
  have hz:seE P l=0:=by omega
  (repeat (first|refine zs rfl ?_|refine zg rfl rfl rfl ?_|refine zd ?_|refine q9 ?_|refine q8 ?_|refine zc rfl (fn71 P l hz) rfl rfl ?_|refine ze rfl (fn71 P l hz) rfl ?_|refine zk rfl rfl (fun _=>fn71 P l hz) rfl rfl ?_))
  refine⟨.inl rfl,_,_,rfl,trivial,?_⟩
  unfold vOp
  rw[if_pos hz,hz]
theorem fn41(P:Int)(l:List Pt)(n:Int):Ox.Fn Tryz.prog 41 (.acons (vH P l) (.acons (vI n) .anil)) (·=vB (decide (0≤n∧n<(l.length:Int)))):=by
 refine Ox.Fn.intro xok Tryz.func41 rfl Tryz.call41 (Nat.le_of_ble_eq_true rfl) (fun E M0 up=>?_)
 refine j4 ?_
 refine JK.lenOf 0 rfl fun hlen=>?_
 replace hlen:l.length≤9223372036854775807:=hlen.1.2.1.1
 (repeat (first|refine zs rfl ?_|refine zg rfl rfl rfl ?_|refine zd ?_|refine q9 ?_|refine q8 ?_))
 refine⟨.inl rfl,_,_,rfl,trivial,?_⟩
 by_cases h:0≤n<;>simp[h]
theorem gp_cases{P:Int}{l:List Pt}(hP:1≤P)(hl:okP P l){i j:Nat}(hj:j<l.length):gp P l i j=if (l.getD j (0,0,())).1-eN P l i<0 then(l.getD j (0,0,())).1-eN P l i+P else(l.getD j (0,0,())).1-eN P l i:=by
 have h:=gp_eq (c:=-1) (l:=l) hP i j
 rw[LA1 hP hl hj,LE1 hP] at h
 rw[h]
 have e:aT l j=(l.getD j (0,0,())).1:=rfl
 rw[e]
 split<;>split<;>omega
theorem fn26(P:Int)(l:List Pt)(i j:Nat)(hP:1≤P∧P≤1000)(hl:okP P l)(hi:i<l.length)(hj:j<l.length):Ox.Fn Tryz.prog 26 (.acons (vH P l) (.acons (vI i) (.acons (vI j) .anil))) (·=vI (gp P l i j)):=by
 refine Ox.Fn.intro xok Tryz.func26 rfl Tryz.call26 (Nat.le_of_ble_eq_true rfl) (fun E M0 up=>?_)
 refine j4 ?_
 have c91:=fn60 P l (ovA P l) (pkV P l) (stA P l) i hP hl hi
 have hb:=(z4u hl hj).1
 have he:0≤eN P l i∧eN P l i<P:=q0w hP.1 _
 have hg:=gp_cases hP.1 hl (i:=i) hj
 generalize eN P l i=e at *
 (repeat (first|refine zs rfl ?_|refine zg rfl rfl rfl ?_|refine zd ?_|refine q9 ?_|refine q8 ?_|refine zc rfl (c91) rfl rfl ?_|refine ze rfl (c91) rfl ?_|refine zk rfl rfl (fun _=>c91) rfl rfl ?_))
 refine z8 rfl (fun hc=>?_) (fun hc=>?_)
 ·(simp only[↓cdL] at hc;try simp only[Ty.dflt,Int.toNat_natCast] at hc)
  (repeat (first|refine zs rfl ?_|refine zg rfl rfl rfl ?_|refine zd ?_|refine q9 ?_|refine q8 ?_))
  refine⟨.inl rfl,_,_,rfl,trivial,?_⟩
  rw[hg,if_pos hc];rfl
 ·(simp only[↓cdL] at hc;try simp only[Ty.dflt,Int.toNat_natCast] at hc)
  (repeat (first|refine zs rfl ?_|refine zg rfl rfl rfl ?_|refine zd ?_|refine q9 ?_|refine q8 ?_))
  refine⟨.inl rfl,_,_,rfl,trivial,?_⟩
  rw[hg,if_neg hc];rfl
end Go.Proofs.YtjfafggkkjgpeaaGreatDoor
namespace Go.Proofs.YtjfafggkkjgpeaaGreatDoor
open Go Go.RowKit Ox Ox.Sh Ox.Se
attribute [local irreducible] JC JL JK JW
attribute [local irreducible] ovA stA pkV
abbrev iL(o:List Nat):List Int:=o.map (fun n:Nat=>(n:Int))
theorem q74(o:List Nat)(i:Nat):(iL o).getD i 0=((o.getD i 0:Nat):Int):=by
 rw[List.getD_eq_getElem?_getD,List.getElem?_map,List.getD_eq_getElem?_getD]
 cases o[i]?<;>rfl
theorem z6k(o:List Nat):(iL o).length=o.length:=List.length_map _
end Go.Proofs.YtjfafggkkjgpeaaGreatDoor
namespace Go.Proofs.YtjfafggkkjgpeaaGreatDoor
open Go Go.RowKit Ox Ox.Sh Ox.Se
attribute [local irreducible] JC JL JK JW
attribute [local irreducible] ovA stA pkV
theorem fn203(P:Int)(l:List Pt)(i j:Nat)(hz:seE P l=0)(hi:i<l.length)(hj:j<l.length):Ox.Fn Tryz.prog 203 (.acons (vS P l) (.acons (vI i) (.acons (vI j) .anil))) (·=vI (gp P l i j)):=by
 obtain⟨hP,h1,h8,hl⟩:=q7o.1 hz
 refine Ox.Fn.intro xok Tryz.func203 rfl Tryz.call203 (Nat.le_of_ble_eq_true rfl) (fun E M0 up=>?_)
 refine j4 ?_
 have c54:=fn243 P l i hP hl hi
 have hb:=(z4u hl hj).1
 have he:0≤eN P l i∧eN P l i<P:=q0w hP.1 _
 have hg:gp P l i j=((l.getD j (0,0,())).1+P-eN P l i) % P:=by
  show((l.getD j (0,0,())).1-eN P l i) % P=_
  rw[← Int.add_emod_right]
  congr 1;omega
 generalize eN P l i=e at *
 (repeat (first|refine zs rfl ?_|refine zg rfl rfl rfl ?_|refine zd ?_|refine q9 ?_|refine q8 ?_|refine zc rfl (c54) rfl rfl ?_|refine ze rfl (c54) rfl ?_|refine zk rfl rfl (fun _=>c54) rfl rfl ?_))
 refine⟨.inl rfl,_,_,rfl,trivial,?_⟩
 rw[hg];rfl
end Go.Proofs.YtjfafggkkjgpeaaGreatDoor
namespace Go.Proofs.YtjfafggkkjgpeaaGreatDoor
open Go Go.RowKit Ox Ox.Sh Ox.Se
attribute [local irreducible] JC JL JK JW
attribute [local irreducible] ovA stA pkV
end Go.Proofs.YtjfafggkkjgpeaaGreatDoor
namespace Go.Proofs.YtjfafggkkjgpeaaGreatDoor
open Go Go.RowKit Ox Ox.Sh Ox.Se
attribute [local irreducible] JC JL JK JW
attribute [local irreducible] ovA stA pkV
theorem q11{α:Type}(xs:List α){i:Nat}(h:i<xs.length)(d:α):xs.take (i+1)=xs.take i++[xs.getD i d]:=by
 rw[List.take_succ,List.getElem?_eq_getElem h,j6 xs h];rfl
def Ord(N:Nat)(xs:List Int):Prop:=xs.length=N∧(∀ x∈xs,0≤x∧x<(N:Int))∧xs.Nodup
instance (N:Nat)(xs:List Int):Decidable (Ord N xs):=by unfold Ord;infer_instance
def seenR(xs:List Int):List Int:=(List.range 8).map fun k:Nat=>((xs.count (k:Int):Nat):Int)
theorem n9(xs:List Int):(seenR xs).length=8:=by simp[seenR]
theorem q0u(xs:List Int){k:Nat}(hk:k<8):(seenR xs).getD k 0=((xs.count (k:Int):Nat):Int):=by
 unfold seenR
 rw[List.getD_eq_getElem?_getD,List.getElem?_map,List.getElem?_range hk];rfl
theorem z25(xs:List Int){x:Nat}(hx:x<8):seenR (xs++[(x:Int)])=(seenR xs).set x ((seenR xs).getD x 0+1):=by
 refine List.ext_getElem (by simp[seenR]) fun n h1 h2=>?_
 have hn:n<8:=by rw[n9] at h1;exact h1
 have e1:=q0u (xs++[(x:Int)]) hn
 have e2:=q0u xs hn
 rw[j6 _ h1] at e1
 rw[j6 _ (by rw[n9];exact hn)] at e2
 rw[e1,List.getElem_set,List.count_append,List.count_singleton]
 by_cases e:x=n
 ·subst e;rw[if_pos rfl,q0u xs hx];simp
 ·rw[if_neg e,e2]
  have:¬ (x:Int)=(n:Int):=by omega
  simp[this]
theorem q70{b:Int}:∀ {xs:List Int},xs≠[]→(maxL xs≤b↔∀ x∈xs,x≤b)
 |[],h=>absurd rfl h
 |y::r,_=>by
  have key:∀ (r:List Int) (y:Int),r.foldl Max.max y≤b↔∀ x∈y::r,x≤b:=by
   intro r
   induction r with
   |nil=>intro y;simp
   |cons z r ih=>
    intro y
    rw[List.foldl_cons,ih]
    simp only[List.forall_mem_cons]
    constructor
    ·rintro⟨h1,h2⟩;exact⟨by omega,by omega,h2⟩
    ·rintro⟨h1,h2,h3⟩;exact⟨by omega,h3⟩
  rw[maxL];exact key r y
theorem q4x{α:Type}[BEq α][LawfulBEq α]:∀ {xs:List α},(∀ a,xs.count a≤1)↔xs.Nodup
 |[]=>by simp
 |x::r=>by
  rw[List.nodup_cons,← q4x]
  constructor
  ·intro h
   refine⟨fun hx=>?_,fun a=>?_⟩
   ·have h1:=h x
    rw[List.count_cons_self] at h1
    have:=List.count_pos_iff.2 hx
    omega
   ·have h1:=h a
    rw[List.count_cons] at h1
    omega
  ·rintro⟨h1,h2⟩ a
   rw[List.count_cons]
   have:=h2 a
   by_cases e:x=a
   ·subst e
    rw[List.count_eq_zero.2 h1];simp
   ·have:(x==a)=false:=by simpa using e
    rw[this];simpa using h2 a
theorem seen_one{N:Nat}{xs:List Int}(hN:N≤8)(hx:∀ x∈xs,0≤x∧x<(N:Int))(h1:1≤xs.length):maxL (seenR xs)=1↔xs.Nodup:=by
 have hne:seenR xs≠[]:=by intro e;have:=congrArg List.length e;rw[n9] at this;simp at this
 have hc:∀ a,1<xs.count a→∃ k:Nat,k<8∧a=(k:Int):=fun a ha=>by
  have:=hx a (List.count_pos_iff.1 (by omega))
  exact⟨a.toNat,by omega,by omega⟩
 have hge:1≤maxL (seenR xs):=by
  obtain⟨y,r,rfl⟩:=List.exists_cons_of_length_pos (by omega:0<xs.length)
  have hy:=hx y List.mem_cons_self
  have h2:=(q70 (b:=maxL (seenR (y::r))) hne).1 (Int.le_refl _) ((seenR (y::r)).getD y.toNat 0) (by rw[j6 _ (by rw[n9];omega)];exact List.getElem_mem _)
  rw[q0u _ (by omega:y.toNat<8),show((y.toNat:Nat):Int)=y by omega] at h2
  have:0<(y::r).count y:=List.count_pos_iff.2 List.mem_cons_self
  omega
 rw[← q4x]
 constructor
 ·intro h a
  refine Nat.le_of_not_lt fun ha=>?_
  obtain⟨k,hk,rfl⟩:=hc a ha
  have h2:=(q70 (b:=1) hne).1 (by omega) ((seenR xs).getD k 0) (by rw[j6 _ (by rw[n9];exact hk)];exact List.getElem_mem _)
  rw[q0u _ hk] at h2
  omega
 ·intro h
  have:maxL (seenR xs)≤1:=(q70 hne).2 fun x hx=>by
   obtain⟨k,hk,rfl⟩:=List.mem_map.1 hx
   have:=h (k:Int)
   omega
  omega
abbrev natL(xs:List Int):List Nat:=xs.map Int.toNat
theorem iL_nat{xs:List Int}(h:∀ x∈xs,0≤x):iL (natL xs)=xs:=by
 unfold iL natL
 rw[List.map_map]
 conv=>rhs;rw[← List.map_id xs]
 refine List.map_congr_left fun x hx=>?_
 have:=h x hx
 show((x.toNat:Nat):Int)=x
 omega
theorem nat_iL(o:List Nat):natL (iL o)=o:=by simp[Function.comp_def]
theorem Ord.iL{N:Nat}{xs:List Int}(h:Ord N xs):Go.Proofs.YtjfafggkkjgpeaaGreatDoor.iL (natL xs)=xs:=iL_nat fun x hx=>(h.2.1 x hx).1
theorem Ord.lt{N:Nat}{xs:List Int}(h:Ord N xs):∀ n∈natL xs,n<N:=fun n hn=>by
 obtain⟨x,hx,rfl⟩:=List.mem_map.1 hn
 have:=h.2.1 x hx
 omega
theorem Ord.len{N:Nat}{xs:List Int}(h:Ord N xs):(natL xs).length=N:=by rw[List.length_map];exact h.1
theorem Ord.nodup{N:Nat}{xs:List Int}(h:Ord N xs):(natL xs).Nodup:=by
 have:=h.2.2
 rw[← h.iL] at this
 unfold List.Nodup at this ⊢
 rw[List.pairwise_map] at this
 exact this.imp fun h e=>h (by rw[e])
abbrev vR(r:List Int):AV:=.val (.arr 8 (.int .i64)) r
theorem fn128(P:Int)(l:List Pt)(xs:List Int):Ox.Fn Tryz.prog 128 (.acons (vS P l) (.acons (vL xs) .anil)) (·=vB (decide (Ord l.length xs))):=by
 refine Ox.Fn.intro xok Tryz.func128 rfl Tryz.call128 (Nat.le_of_ble_eq_true rfl) (fun E M0 up=>?_)
 refine j4 ?_
 refine JK.lenOf 1 rfl fun hlen=>?_
 replace hlen:xs.length≤9223372036854775807:=hlen.1
 refine JK.lenOf 0 rfl fun hlen2=>?_
 replace hlen2:l.length≤9223372036854775807:=hlen2.2.1.1
 (repeat (first|refine zs rfl ?_|refine zg rfl rfl rfl ?_|refine zd ?_|refine q9 ?_|refine q8 ?_))
 refine z8 rfl (fun hc=>?_) (fun hc=>?_)
 ·(simp only[↓cdL] at hc;try simp only[Ty.dflt,Int.toNat_natCast] at hc)
  (repeat (first|refine zs rfl ?_|refine zg rfl rfl rfl ?_|refine zd ?_|refine q9 ?_|refine q8 ?_))
  refine⟨.inl rfl,_,_,rfl,trivial,?_⟩
  rw[decide_eq_false (fun h:Ord l.length xs=>by have:=h.1;omega)]
 ·(simp only[↓cdL] at hc;try simp only[Ty.dflt,Int.toNat_natCast] at hc)
  (repeat (first|refine zs rfl ?_|refine zg rfl rfl rfl ?_|refine zd ?_|refine q9 ?_|refine q8 ?_))
  refine JK.loop (fun i:Nat=>⟨[(1,vL xs),(2,.lf (.optr 0 [])),(5,vI (i:Int))],[(0,.cell seT (vS P l))],1⟩) (fun i=>i≤xs.length∧(∀ x∈xs.take i,0≤x∧x<(l.length:Int))∧(xs.take i).Nodup) (fun i=>xs.length-i) 0 ⟨Nat.zero_le _,fun x hx=>by simp at hx,by simp⟩ (by(exact z7 (by conv=>lhs;reduce))) fun i ⟨hi,hall,hnd⟩=>?_
  (repeat (first|refine zs rfl ?_|refine zg rfl rfl rfl ?_|refine zd ?_|refine q9 ?_|refine q8 ?_))
  refine z8 rfl (fun hd=>?_) (fun hd=>?_)
  ·(simp only[↓cdL] at hd;try simp only[Ty.dflt,Int.toNat_natCast] at hd)
   have hi':i<xs.length:=by omega
   have hmem:xs.getD i 0∈xs:=by rw[j6 xs hi'];exact List.getElem_mem hi'
   have c66:=fn202 P l (xs.getD i 0)
   (repeat (first|refine zs rfl ?_|refine zg rfl rfl rfl ?_|refine zd ?_|refine q9 ?_|refine q8 ?_|refine zc rfl (c66) rfl rfl ?_|refine ze rfl (c66) rfl ?_|refine zk rfl rfl (fun _=>c66) rfl rfl ?_))
   refine z8 rfl (fun he=>?_) (fun he=>?_)
   ·(simp only[↓cdL] at he;try simp only[Ty.dflt,Int.toNat_natCast] at he)
    (repeat (first|refine zs rfl ?_|refine zg rfl rfl rfl ?_|refine zd ?_|refine q9 ?_|refine q8 ?_))
    refine⟨.inl rfl,_,_,rfl,trivial,?_⟩
    have:¬ Ord l.length xs:=fun h=>he (h.2.1 _ hmem)
    rw[decide_eq_false this]
   ·(simp only[↓cdL] at he;try simp only[Ty.dflt,Int.toNat_natCast] at he)
    have hd':0≤xs.getD i 0∧xs.getD i 0<(l.length:Int):=he
    (repeat (first|refine zs rfl ?_|refine zg rfl rfl rfl ?_|refine zd ?_|refine q9 ?_|refine q8 ?_))
    refine JK.loop (fun j:Nat=>⟨[(1,vL xs),(2,.lf (.optr 0 [])),(5,vI (i:Int)),(6,vI (j:Int))],[(0,.cell seT (vS P l))],1⟩) (fun j=>j≤i∧xs.getD i 0∉xs.take j) (fun j=>i-j) 0 ⟨Nat.zero_le _,by simp⟩ (by(exact z7 (by conv=>lhs;reduce))) fun j ⟨hj,hno⟩=>?_
    (repeat (first|refine zs rfl ?_|refine zg rfl rfl rfl ?_|refine zd ?_|refine q9 ?_|refine q8 ?_))
    refine z8 rfl (fun hf=>?_) (fun hf=>?_)
    ·(simp only[↓cdL] at hf;try simp only[Ty.dflt,Int.toNat_natCast] at hf)
     have hj':j<xs.length:=by omega
     (repeat (first|refine zs rfl ?_|refine zg rfl rfl rfl ?_|refine zd ?_|refine q9 ?_|refine q8 ?_))
     refine z8 rfl (fun hg=>?_) (fun hg=>?_)
     ·(simp only[↓cdL] at hg;try simp only[Ty.dflt,Int.toNat_natCast] at hg)
      have hg':xs.getD j 0=xs.getD i 0:=hg
      (repeat (first|refine zs rfl ?_|refine zg rfl rfl rfl ?_|refine zd ?_|refine q9 ?_|refine q8 ?_))
      refine⟨.inl rfl,_,_,rfl,trivial,?_⟩
      have:¬ Ord l.length xs:=fun h=>by
       rw[j6 xs hj',j6 xs hi'] at hg'
       have:=List.pairwise_iff_getElem.1 h.2.2 j i hj' hi' (by omega)
       exact this hg'
      rw[decide_eq_false this]
     ·(simp only[↓cdL] at hg;try simp only[Ty.dflt,Int.toNat_natCast] at hg)
      have hg':xs.getD j 0≠xs.getD i 0:=hg
      (repeat (first|refine zs rfl ?_|refine zg rfl rfl rfl ?_|refine zd ?_|refine q9 ?_|refine q8 ?_))
      refine⟨j+1,by(exact z7 (by conv=>lhs;reduce)),⟨by omega,?_⟩,by omega⟩
      rw[q11 xs hj' 0,List.mem_append,List.mem_singleton]
      rintro(h|h)
      ·exact hno h
      ·exact hg' h.symm
    ·(simp only[↓cdL] at hf;try simp only[Ty.dflt,Int.toNat_natCast] at hf)
     have:j=i:=by omega
     subst this
     (repeat (first|refine zs rfl ?_|refine zg rfl rfl rfl ?_|refine zd ?_|refine q9 ?_|refine q8 ?_))
     refine⟨j+1,by(exact z7 (by conv=>lhs;reduce)),⟨by omega,?_,?_⟩,by omega⟩
     ·intro y hy
      rw[q11 xs hi' 0] at hy
      rcases List.mem_append.1 hy with hy|hy
      ·exact hall y hy
      ·rw[List.mem_singleton.1 hy];exact hd'
     ·rw[q11 xs hi' 0,List.nodup_append]
      refine⟨hnd,by simp,fun a ha b hb e=>?_⟩
      rw[List.mem_singleton.1 hb] at e
      rw[e] at ha
      exact hno ha
  ·(simp only[↓cdL] at hd;try simp only[Ty.dflt,Int.toNat_natCast] at hd)
   have he:i=xs.length:=by omega
   rw[he,List.take_length] at hall hnd
   (repeat (first|refine zs rfl ?_|refine zg rfl rfl rfl ?_|refine zd ?_|refine q9 ?_|refine q8 ?_))
   refine⟨.inl rfl,_,_,rfl,trivial,?_⟩
   have ho:Ord l.length xs:=⟨by omega,hall,hnd⟩
   rw[decide_eq_true ho]
def ordE(P:Int)(l:List Pt)(xs:List Int):Int:=if seE P l≠0 then seE P l else if Ord l.length xs then 0 else 15
theorem q4d{P:Int}{l:List Pt}{xs:List Int}:ordE P l xs=0↔seE P l=0∧Ord l.length xs:=by
 unfold ordE
 split
 ·rename_i h;exact⟨fun h'=>absurd h' h,fun h'=>absurd h'.1 h⟩
 ·rename_i h
  split
  ·rename_i h';exact⟨fun _=>⟨by omega,h'⟩,fun _=>rfl⟩
  ·rename_i h';exact⟨fun e=>by omega,fun e=>absurd e.2 h'⟩
theorem seen_le{N:Nat}{xs:List Int}(hN:N≤8)(hx:∀ x∈xs,0≤x∧x<(N:Int))(h1:1≤xs.length):¬ maxL (seenR xs)>1↔xs.Nodup:=by
 rw[← seen_one hN hx h1]
 have hne:seenR xs≠[]:=by intro e;have:=congrArg List.length e;rw[n9] at this;simp at this
 have hge:1≤maxL (seenR xs):=by
  obtain⟨y,r,rfl⟩:=List.exists_cons_of_length_pos (by omega:0<xs.length)
  have hy:=hx y List.mem_cons_self
  have h2:=(q70 (b:=maxL (seenR (y::r))) hne).1 (Int.le_refl _) ((seenR (y::r)).getD y.toNat 0) (by rw[j6 _ (by rw[n9];omega)];exact List.getElem_mem _)
  rw[q0u _ (by omega:y.toNat<8),show((y.toNat:Nat):Int)=y by omega] at h2
  have:0<(y::r).count y:=List.count_pos_iff.2 List.mem_cons_self
  omega
 omega
abbrev vOr(P:Int)(l:List Pt)(xs:List Int):AV:=.tup (.acons (.val (.ptr shT) (if ordE P l xs=0 then some (shV P l) else none)) (.acons (vI (ordE P l xs)) .anil))
set_option maxHeartbeats 2000000 in
theorem fn24(P:Int)(l:List Pt)(xs:List Int):Ox.Fn Tryz.prog 24 (.acons (vS P l) (.acons (vL xs) .anil)) (·=vOr P l xs):=by
 refine Ox.Fn.intro xok Tryz.func24 rfl Tryz.call24 (Nat.le_of_ble_eq_true rfl) (fun E M0 up=>?_)
 refine j4 ?_
 refine JK.lenOf 1 rfl fun hlen=>?_
 replace hlen:xs.length≤9223372036854775807:=hlen.1
 have c61:=fn32 P l
 unfold vOp at c61
 by_cases hz:seE P l=0
 ·obtain⟨hP,h1,h8,hl⟩:=q7o.1 hz
  rw[if_pos hz,hz] at c61
  have hno:∀ {e:Int},¬ Ord l.length xs→e=15→(AV.tup (.acons (.val (.ptr shT) none) (.acons (vI e) .anil)))=vOr P l xs:=fun {e} h he=>by
   have h2:ordE P l xs=15:=by unfold ordE;rw[if_neg (by omega),if_neg h]
   unfold vOr;rw[h2,if_neg (by decide),he]
  have hyes:Ord l.length xs→(AV.tup (.acons (.val (.ptr shT) (some (shV P l))) (.acons (vI 0) .anil)))=vOr P l xs:=fun h=>by
   have h2:ordE P l xs=0:=q4d.2 ⟨hz,h⟩
   unfold vOr;rw[h2,if_pos rfl]
  generalize vOr P l xs=R at hno hyes ⊢
  (repeat (first|refine zs rfl ?_|refine zg rfl rfl rfl ?_|refine zd ?_|refine q9 ?_|refine q8 ?_|refine zc rfl (c61) rfl rfl ?_|refine ze rfl (c61) rfl ?_|refine zk rfl rfl (fun _=>c61) rfl rfl ?_))
  refine z8 rfl (fun h=>absurd h (by decide)) (fun _=>?_)
  (repeat (first|refine zs rfl ?_|refine zg rfl rfl rfl ?_|refine zd ?_|refine q9 ?_|refine q8 ?_))
  refine JK.loop (fun i:Nat=>⟨[(1,vL xs),(2,.lf (.optr 0 [])),(6,vH P l),(8,.lf (.optr 1 [])),(20,vL xs),(21,vI xs.length),(22,vI (i:Int))],[(0,.cell seT (vS P l)),(1,.cell (.arr 8 (.int .i64)) (vR (seenR (xs.take i))))],2⟩)
   (fun i=>i≤xs.length∧∀ x∈xs.take i,0≤x∧x<(l.length:Int)) (fun i=>xs.length-i) 0 ⟨Nat.zero_le _,fun x hx=>by simp at hx⟩ ?_ fun i ⟨hi,hall⟩=>?_
  ·have e:seenR (xs.take 0)=List.replicate 8 0:=rfl
   rw[e]
   (exact z7 (by conv=>lhs;reduce))
  have hsl:=n9 (xs.take i)
  have hsn:∀ x:Nat,x<8→i<xs.length→xs.getD i 0=(x:Int)→seenR (xs.take (i+1))=(seenR (xs.take i)).set x ((seenR (xs.take i)).getD x 0+1):=fun x hx hlt e=>by
   rw[q11 xs hlt 0,e];exact z25 _ hx
  have hbd:∀ x:Nat,x<8→0≤(seenR (xs.take i)).getD x 0∧(seenR (xs.take i)).getD x 0≤(i:Int):=fun x hx=>by
   rw[q0u _ hx]
   have:=List.count_le_length (a:=(x:Int)) (l:=xs.take i)
   rw[List.length_take] at this
   omega
  have hfin:i=xs.length→seenR (xs.take i)=seenR xs:=fun e=>by rw[e,List.take_length]
  generalize seenR (xs.take i)=R at hsl hsn hbd hfin ⊢
  (repeat (first|refine zs rfl ?_|refine zg rfl rfl rfl ?_|refine zd ?_|refine q9 ?_|refine q8 ?_))
  refine z8 rfl (fun hc=>?_) (fun hc=>?_)
  ·(simp only[↓cdL] at hc;try simp only[Ty.dflt,Int.toNat_natCast] at hc)
   have hi':i<xs.length:=by omega
   have hmem:xs.getD i 0∈xs:=by rw[j6 xs hi'];exact List.getElem_mem hi'
   have c64:=fn41 P l (xs.getD i 0)
   (repeat (first|refine zs rfl ?_|refine zg rfl rfl rfl ?_|refine zd ?_|refine q9 ?_|refine q8 ?_|refine zc rfl (c64) rfl rfl ?_|refine ze rfl (c64) rfl ?_|refine zk rfl rfl (fun _=>c64) rfl rfl ?_))
   refine z8 rfl (fun hd=>?_) (fun hd=>?_)
   ·(simp only[↓cdL] at hd;try simp only[Ty.dflt,Int.toNat_natCast] at hd)
    (repeat (first|refine zs rfl ?_|refine zg rfl rfl rfl ?_|refine zd ?_|refine q9 ?_|refine q8 ?_))
    refine⟨.inl rfl,_,_,rfl,trivial,?_⟩
    exact hno (fun h=>hd (h.2.1 _ hmem)) rfl
   ·(simp only[↓cdL] at hd;try simp only[Ty.dflt,Int.toNat_natCast] at hd)
    have hd':0≤xs.getD i 0∧xs.getD i 0<(l.length:Int):=hd
    obtain⟨x,hx⟩:∃ x:Nat,xs.getD i 0=(x:Int):=⟨(xs.getD i 0).toNat,by omega⟩
    have hsn':=hsn (xs.getD i 0).toNat (by omega) hi' (by omega)
    have hb':=hbd (xs.getD i 0).toNat (by omega)
    (repeat (first|refine zs rfl ?_|refine zg rfl rfl rfl ?_|refine zd ?_|refine q9 ?_|refine q8 ?_))
    refine⟨i+1,?_,⟨by omega,fun y hy=>?_⟩,by omega⟩
    ·rw[hsn'];(exact z7 (by conv=>lhs;reduce))
    ·rw[q11 xs hi' 0] at hy
     rcases List.mem_append.1 hy with hy|hy
     ·exact hall y hy
     ·rw[List.mem_singleton.1 hy];exact hd'
  ·(simp only[↓cdL] at hc;try simp only[Ty.dflt,Int.toNat_natCast] at hc)
   have he:i=xs.length:=by omega
   rw[hfin he]
   rw[he,List.take_length] at hall
   have h92:=fn59 (seenR xs) (by rw[n9];omega)
   have h92b:List.take 8 (seenR xs)=seenR xs:=by rw[List.take_of_length_le (by rw[n9];exact Nat.le_refl _)]
   rw[← h92b] at h92
   clear hbd hsn hfin hsl
   by_cases hll:xs.length=l.length
   ·have hso:=seen_le (N:=l.length) h8 hall (by omega)
    rw[h92b] at h92
    (repeat (first|refine zt rfl (by simp[wantB,hll]) ?_|refine zs rfl ?_|refine zc rfl h92 rfl rfl ?_))
    have hb:((xs.length:Int) != (l.length:Int))=false:=bne_eq_false_iff_eq.2 (by omega)
    refine z8 rfl (fun hg=>?_) (fun hg=>?_)
    ·have hg2:(bif ((xs.length:Int) != (l.length:Int)) then true else decide (maxL (seenR xs)>1))=true:=hg
     rw[hb] at hg2
     have hg3:=of_decide_eq_true hg2
     (repeat (first|refine zs rfl ?_|refine zg rfl rfl rfl ?_|refine zd ?_|refine q9 ?_|refine q8 ?_))
     refine⟨.inl rfl,_,_,rfl,trivial,?_⟩
     exact hno (fun h=>hso.2 h.2.2 hg3) rfl
    ·have hg2:(bif ((xs.length:Int) != (l.length:Int)) then true else decide (maxL (seenR xs)>1))=false:=hg
     rw[hb] at hg2
     have hg3:=of_decide_eq_false hg2
     (repeat (first|refine zs rfl ?_|refine zg rfl rfl rfl ?_|refine zd ?_|refine q9 ?_|refine q8 ?_))
     refine⟨.inl rfl,_,_,rfl,trivial,?_⟩
     exact hyes ⟨hll,hall,hso.1 hg3⟩
   ·have hb:((xs.length:Int) != (l.length:Int))=true:=bne_iff_ne.2 (by omega)
    (repeat (first|refine zfl rfl (by simp[wantB];omega) rfl ?_|refine zs rfl ?_|refine q8m rfl hb rfl rfl trivial trivial ?_))
    refine z8 rfl (fun _=>?_) (fun hg=>absurd hg (by simp))
    (repeat (first|refine zs rfl ?_|refine zg rfl rfl rfl ?_|refine zd ?_|refine q9 ?_|refine q8 ?_))
    refine⟨.inl rfl,_,_,rfl,trivial,?_⟩
    exact hno (fun h=>hll h.1) rfl
 ·rw[if_neg hz] at c61
  (repeat (first|refine zs rfl ?_|refine zg rfl rfl rfl ?_|refine zd ?_|refine q9 ?_|refine q8 ?_|refine zc rfl (c61) rfl rfl ?_|refine ze rfl (c61) rfl ?_|refine zk rfl rfl (fun _=>c61) rfl rfl ?_))
  refine z8 rfl (fun hc=>?_) (fun hc=>?_)
  ·(repeat (first|refine zs rfl ?_|refine zg rfl rfl rfl ?_|refine zd ?_|refine q9 ?_|refine q8 ?_))
   refine⟨.inl rfl,_,_,rfl,trivial,?_⟩
   have h2:ordE P l xs=seE P l:=by unfold ordE;rw[if_pos hz]
   unfold vOr;rw[h2,if_neg hz]
  ·(simp only[↓cdL] at hc;try simp only[Ty.dflt,Int.toNat_natCast] at hc)
   omega
end Go.Proofs.YtjfafggkkjgpeaaGreatDoor
namespace Go.Proofs.YtjfafggkkjgpeaaGreatDoor
open Go Go.RowKit Ox Ox.Sh Ox.Se
attribute [local irreducible] JC JL JK JW
attribute [local irreducible] ovA stA pkV
def nx1(o:List Nat)(i:Nat):Nat:=o.getD ((i+1) % o.length) 0
def stp(P:Int)(l:List Pt)(o:List Nat)(i:Nat):Int:=lO l (o.getD i 0)+gp P l (o.getD i 0) (nx1 o i)
def totK(P:Int)(l:List Pt)(o:List Nat)(k:Nat):Int:=sm (stp P l o) (List.range k)
theorem q0t(P:Int)(l:List Pt)(o:List Nat)(k:Nat):totK P l o (k+1)=totK P l o k+stp P l o k:=q2d _ _
theorem q7n(f:Nat→Int):∀ k:Nat,sm f (List.range (k+1))=f 0+sm (fun i=>f (i+1)) (List.range k)
 |0=>by simp[sm]
 |k+1=>by rw[q2d,q7n f k,q2d];omega
theorem z32{P:Int}{l:List Pt}:∀ (s:List Nat) (h:Nat),wst P l h s=sm (fun i=>gp P l ((h::s).getD i 0) ((h::s).getD (i+1) 0)) (List.range s.length)
 |[],_=>rfl
 |j::r,h=>by
  rw[wst,z32 r j,List.length_cons,q7n]
  rfl
theorem sm_idx(f:Nat→Int):∀ o:List Nat,sm f o=sm (fun i=>f (o.getD i 0)) (List.range o.length)
 |[]=>rfl
 |h::t=>by
  rw[u6,sm_idx f t,List.length_cons,q7n]
  rfl
theorem z1l{P:Int}{l:List Pt}(h:Nat)(t:List Nat):totK P l (h::t) (h::t).length=tot P l h t:=by
 unfold totK tot
 rw[z32,sm_idx (lO l)]
 have e:(t++[h]).length=(h::t).length:=by simp
 rw[e,← q8x]
 refine q5p fun i hi=>?_
 have hi':=List.mem_range.1 hi
 unfold stp nx1
 congr 2
 ·have:(h::(t++[h])).getD i 0=(h::t).getD i 0:=by
   have e2:h::(t++[h])=(h::t)++[h]:=rfl
   rw[e2,List.getD_eq_getElem?_getD,List.getD_eq_getElem?_getD,List.getElem?_append_left hi']
  rw[this]
 ·have e2:h::(t++[h])=(h::t)++[h]:=rfl
  rw[e2]
  by_cases hl:i+1<(h::t).length
  ·rw[Nat.mod_eq_of_lt hl,List.getD_eq_getElem?_getD,List.getD_eq_getElem?_getD,List.getElem?_append_left hl]
  ·have e3:i+1=(h::t).length:=by omega
   rw[e3,Nat.mod_self]
   have e4:((h::t)++[h]).getD (h::t).length 0=h:=by
    rw[List.getD_eq_getElem?_getD,List.getElem?_append_right (Nat.le_refl _),Nat.sub_self];rfl
   rw[e4];rfl
theorem rdL_eq{P:Int}{l:List Pt}{o:List Nat}(hne:o≠[]):rdL P l o=totK P l o o.length / P:=by
 cases o with
 |nil=>exact absurd rfl hne
 |cons h t=>rw[z1l];rfl
theorem z5k{N:Nat}{o:List Nat}(ho:∀ n∈o,n<N){i:Nat}(hi:i<o.length):nx1 o i<N:=by
 have:(i+1) % o.length<o.length:=Nat.mod_lt _ (by omega)
 unfold nx1
 rw[j6 o this];exact ho _ (List.getElem_mem this)
theorem q4z{N:Nat}{o:List Nat}(ho:∀ n∈o,n<N){i:Nat}(hi:i<o.length):o.getD i 0<N:=by
 rw[j6 o hi];exact ho _ (List.getElem_mem hi)
theorem q7v(o:List Nat)(i:Nat):((nx1 o i:Nat):Int)=(iL o).getD (((i:Int)+1) % ((iL o).length:Int)).toNat 0:=by
 rw[q74,z6k]
 unfold nx1
 have:(((i:Int)+1) % (o.length:Int)).toNat=(i+1) % o.length:=by
  have e:((i:Int)+1) % (o.length:Int)=(((i+1) % o.length:Nat):Int):=by push_cast;rfl
  rw[e,Int.toNat_natCast]
 rw[this]
theorem stp_bd{P:Int}{l:List Pt}(hP:1≤P∧P≤1000)(hl:okP P l){o:List Nat}(ho:∀ n∈o,n<l.length){i:Nat}(hi:i<o.length):0≤stp P l o i∧stp P l o i≤11000:=by
 have h1:=(hl.get (q4z ho hi)).2
 have h2:=z6n (l:=l) hP.1 (o.getD i 0) (nx1 o i)
 unfold stp
 omega
theorem z0g{P:Int}{l:List Pt}(hP:1≤P∧P≤1000)(hl:okP P l){o:List Nat}(ho:∀ n∈o,n<l.length):∀ k:Nat,k≤o.length→0≤totK P l o k∧totK P l o k≤11000*k
 |0,_=>by have:totK P l o 0=0:=rfl;omega
 |k+1,h=>by
  have h1:=z0g hP hl ho k (by omega)
  have h2:=stp_bd hP hl ho (i:=k) (by omega)
  rw[q0t]
  push_cast
  omega
section
variable {P:Int}{l:List Pt}{o:List Nat}
theorem z5s{i n:Nat}(h:i<n):0≤((i:Int)+1) % (n:Int)∧((i:Int)+1) % (n:Int)<(n:Int):=⟨Int.emod_nonneg _ (by omega),Int.emod_lt_of_pos _ (by omega)⟩
end
set_option maxHeartbeats 1000000 in
theorem fn129(P:Int)(l:List Pt)(o:List Nat)(hz:seE P l=0)(ho:∀ n∈o,n<l.length)(hol:o.length≤1000):Ox.Fn Tryz.prog 129 (.acons (vS P l) (.acons (vL (iL o)) .anil)) (·=vI (totK P l o o.length / P)):=by
 obtain⟨hP,h1,h8,hl⟩:=q7o.1 hz
 refine Ox.Fn.intro xok Tryz.func129 rfl Tryz.call129 (Nat.le_of_ble_eq_true rfl) (fun E M0 up=>?_)
 refine j4 ?_
 have hil:=z6k o
 (repeat (first|refine zs rfl ?_|refine zg rfl rfl rfl ?_|refine zd ?_|refine q9 ?_|refine q8 ?_))
 refine JK.loop (fun i:Nat=>⟨[(1,vL (iL o)),(2,.lf (.optr 0 [])),(5,vI (totK P l o i)),(6,vI (i:Int))],[(0,.cell seT (vS P l))],1⟩) (fun i=>i≤o.length) (fun i=>o.length-i) 0 (Nat.zero_le _) (by(exact z7 (by conv=>lhs;reduce))) fun i hi=>?_
 have hb:=z0g hP hl ho i hi
 have hs:totK P l o (i+1)=totK P l o i+(lO l (o.getD i 0)+gp P l (o.getD i 0) (nx1 o i)):=q0t P l o i
 have hfin:i=o.length→totK P l o i=totK P l o o.length:=fun e=>by rw[e]
 generalize totK P l o i=S at hb hs hfin ⊢
 have e1:=q74 o i
 have e2:=q7v o i
 have c73:=fun h=>fn203 P l (o.getD i 0) (nx1 o i) hz (q4z ho h) (z5k ho h)
 have hgb:=z6n (l:=l) hP.1 (o.getD i 0) (nx1 o i)
 have hmi:=fun h=>z5s (i:=i) (n:=o.length) h
 rw[← hil] at hmi
 have hgl:i<o.length→0≤(iL o).getD i 0∧(iL o).getD i 0<(l.length:Int):=fun h=>by rw[e1];have:=q4z ho h;omega
 have hlo:i<o.length→(1:Int)≤lO l (o.getD i 0)∧lO l (o.getD i 0)≤10000:=fun h=>(hl.get (q4z ho h)).2
 have hle:lO l (o.getD i 0)=(l.getD ((iL o).getD i 0).toNat (0,0,())).2.1:=by rw[e1,Int.toNat_natCast];rfl
 rw[← e1,e2] at c73
 generalize gp P l (o.getD i 0) (nx1 o i)=g at c73 hs hgb
 rw[hle] at hs hlo
 generalize iL o=X at *
 (repeat (first|refine zs rfl ?_|refine zg rfl rfl rfl ?_|refine zd ?_|refine q9 ?_|refine q8 ?_))
 refine z8 rfl (fun hc=>?_) (fun hc=>?_)
 ·(simp only[↓cdL] at hc;try simp only[Ty.dflt,Int.toNat_natCast] at hc)
  have hi':i<o.length:=by omega
  replace c73:=c73 hi'
  replace hmi:=hmi (by omega)
  replace hgl:=hgl hi'
  replace hlo:=hlo hi'
  (repeat (first|refine zs rfl ?_|refine zg rfl rfl rfl ?_|refine zd ?_|refine q9 ?_|refine q8 ?_|refine zc rfl (c73) rfl rfl ?_|refine ze rfl (c73) rfl ?_|refine zk rfl rfl (fun _=>c73) rfl rfl ?_))
  refine⟨i+1,?_,by omega,by omega⟩
  rw[hs]
  (exact z7 (by conv=>lhs;reduce))
 ·(simp only[↓cdL] at hc;try simp only[Ty.dflt,Int.toNat_natCast] at hc)
  rw[hfin (by omega)] at hb ⊢
  have hq:0≤totK P l o o.length / P:=Int.ediv_nonneg hb.1 (by omega)
  (repeat (first|refine zs rfl ?_|refine zg rfl rfl rfl ?_|refine zd ?_|refine q9 ?_|refine q8 ?_))
  refine⟨.inl rfl,_,_,rfl,trivial,?_⟩
  rfl
set_option maxHeartbeats 1000000 in
theorem fn25(P:Int)(l:List Pt)(o:List Nat)(hz:seE P l=0)(ho:∀ n∈o,n<l.length)(hol:o.length≤1000):Ox.Fn Tryz.prog 25 (.acons (vH P l) (.acons (vL (iL o)) .anil)) (·=vI (totK P l o o.length / P)):=by
 obtain⟨hP,h1,h8,hl⟩:=q7o.1 hz
 refine Ox.Fn.intro xok Tryz.func25 rfl Tryz.call25 (Nat.le_of_ble_eq_true rfl) (fun E M0 up=>?_)
 refine j4 ?_
 have hil:=z6k o
 (repeat (first|refine zs rfl ?_|refine zg rfl rfl rfl ?_|refine zd ?_|refine q9 ?_|refine q8 ?_))
 refine JK.loop (fun i:Nat=>⟨[(0,vH P l),(1,vL (iL o)),(5,vI (totK P l o i)),(8,vL (iL o)),(9,vI (iL o).length),(10,vI (i:Int))],[],0⟩) (fun i=>i≤o.length) (fun i=>o.length-i) 0 (Nat.zero_le _) (by(exact z7 (by conv=>lhs;reduce))) fun i hi=>?_
 have hb:=z0g hP hl ho i hi
 have hs:totK P l o (i+1)=totK P l o i+(lO l (o.getD i 0)+gp P l (o.getD i 0) (nx1 o i)):=q0t P l o i
 have hfin:i=o.length→totK P l o i=totK P l o o.length:=fun e=>by rw[e]
 generalize totK P l o i=S at hb hs hfin ⊢
 have e1:=q74 o i
 have e2:=q7v o i
 have c65:=fun h=>fn26 P l (o.getD i 0) (nx1 o i) hP hl (q4z ho h) (z5k ho h)
 have hgb:=z6n (l:=l) hP.1 (o.getD i 0) (nx1 o i)
 have hmi:=fun h=>z5s (i:=i) (n:=o.length) h
 rw[← hil] at hmi
 have hgl:i<o.length→0≤(iL o).getD i 0∧(iL o).getD i 0<(l.length:Int):=fun h=>by rw[e1];have:=q4z ho h;omega
 have hlo:i<o.length→(1:Int)≤lO l (o.getD i 0)∧lO l (o.getD i 0)≤10000:=fun h=>(hl.get (q4z ho h)).2
 have hle:lO l (o.getD i 0)=(l.getD ((iL o).getD i 0).toNat (0,0,())).2.1:=by rw[e1,Int.toNat_natCast];rfl
 rw[← e1,e2] at c65
 generalize gp P l (o.getD i 0) (nx1 o i)=g at c65 hs hgb
 rw[hle] at hs hlo
 generalize iL o=X at *
 (repeat (first|refine zs rfl ?_|refine zg rfl rfl rfl ?_|refine zd ?_|refine q9 ?_|refine q8 ?_))
 refine z8 rfl (fun hc=>?_) (fun hc=>?_)
 ·(simp only[↓cdL] at hc;try simp only[Ty.dflt,Int.toNat_natCast] at hc)
  have hi':i<o.length:=by omega
  replace c65:=c65 hi'
  replace hmi:=hmi (by omega)
  replace hgl:=hgl hi'
  replace hlo:=hlo hi'
  (repeat (first|refine zs rfl ?_|refine zg rfl rfl rfl ?_|refine zd ?_|refine q9 ?_|refine q8 ?_|refine zc rfl (c65) rfl rfl ?_|refine ze rfl (c65) rfl ?_|refine zk rfl rfl (fun _=>c65) rfl rfl ?_))
  refine⟨i+1,?_,by omega,by omega⟩
  rw[hs]
  (exact z7 (by conv=>lhs;reduce))
 ·(simp only[↓cdL] at hc;try simp only[Ty.dflt,Int.toNat_natCast] at hc)
  rw[hfin (by omega)] at hb ⊢
  have hq:0≤totK P l o o.length / P:=Int.ediv_nonneg hb.1 (by omega)
  (repeat (first|refine zs rfl ?_|refine zg rfl rfl rfl ?_|refine zd ?_|refine q9 ?_|refine q8 ?_))
  refine⟨.inl rfl,_,_,rfl,trivial,?_⟩
  rfl
def rdI(P:Int)(l:List Pt)(xs:List Int):Int:=if ordE P l xs=0 then rdL P l (natL xs) else 0
theorem rd_of{P:Int}{l:List Pt}{xs:List Int}(h:ordE P l xs=0):(∀ n∈natL xs,n<l.length)∧(natL xs).length≤8∧iL (natL xs)=xs∧rdI P l xs=totK P l (natL xs) (natL xs).length / P∧natL xs≠[]∧(natL xs).length=l.length∧(natL xs).Nodup:=by
 obtain⟨hz,ho⟩:=q4d.1 h
 obtain⟨hP,h1,h8,hl⟩:=q7o.1 hz
 have hlen:=ho.len
 have hne:natL xs≠[]:=fun e=>by rw[e] at hlen;simp at hlen;omega
 refine⟨ho.lt,by omega,ho.iL,?_,hne,hlen,ho.nodup⟩
 unfold rdI
 rw[if_pos h,rdL_eq hne]
theorem fn53(P:Int)(l:List Pt)(xs:List Int):Ox.Fn Tryz.prog 53 (.acons (vS P l) (.acons (vL xs) .anil)) (·=vT2 (rdI P l xs) (ordE P l xs)):=by
 refine Ox.Fn.intro xok Tryz.func53 rfl Tryz.call53 (Nat.le_of_ble_eq_true rfl) (fun E M0 up=>?_)
 refine j4 ?_
 have c22:=fn6 P l
 (repeat (first|refine zs rfl ?_|refine zg rfl rfl rfl ?_|refine zd ?_|refine q9 ?_|refine q8 ?_|refine zc rfl (c22) rfl rfl ?_|refine ze rfl (c22) rfl ?_|refine zk rfl rfl (fun _=>c22) rfl rfl ?_))
 refine z8 rfl (fun hc=>?_) (fun hc=>?_)
 ·(simp only[↓cdL] at hc;try simp only[Ty.dflt,Int.toNat_natCast] at hc)
  (repeat (first|refine zs rfl ?_|refine zg rfl rfl rfl ?_|refine zd ?_|refine q9 ?_|refine q8 ?_|refine zc rfl (c22) rfl rfl ?_|refine ze rfl (c22) rfl ?_|refine zk rfl rfl (fun _=>c22) rfl rfl ?_))
  refine⟨.inl rfl,_,_,rfl,trivial,?_⟩
  have h2:ordE P l xs=seE P l:=by unfold ordE;rw[if_pos hc]
  unfold rdI;rw[h2,if_neg hc]
 ·(simp only[↓cdL] at hc;try simp only[Ty.dflt,Int.toNat_natCast] at hc)
  have hz:seE P l=0:=by omega
  have c55:=fn128 P l xs
  (repeat (first|refine zs rfl ?_|refine zg rfl rfl rfl ?_|refine zd ?_|refine q9 ?_|refine q8 ?_|refine zc rfl (c55) rfl rfl ?_|refine ze rfl (c55) rfl ?_|refine zk rfl rfl (fun _=>c55) rfl rfl ?_))
  refine z8 rfl (fun hd=>?_) (fun hd=>?_)
  ·(simp only[↓cdL] at hd;try simp only[Ty.dflt,Int.toNat_natCast] at hd)
   (repeat (first|refine zs rfl ?_|refine zg rfl rfl rfl ?_|refine zd ?_|refine q9 ?_|refine q8 ?_))
   refine⟨.inl rfl,_,_,rfl,trivial,?_⟩
   have h2:ordE P l xs=15:=by unfold ordE;rw[if_neg (by omega),if_neg hd]
   unfold rdI;rw[h2,if_neg (by decide)]
  ·(simp only[↓cdL] at hd;try simp only[Ty.dflt,Int.toNat_natCast] at hd)
   have h2:ordE P l xs=0:=q4d.2 ⟨hz,hd⟩
   obtain⟨r1,r2,r3,r4,_⟩:=rd_of h2
   have c72:=fn129 P l (natL xs) hz r1 (by omega)
   rw[r3,← r4] at c72
   (repeat (first|refine zs rfl ?_|refine zg rfl rfl rfl ?_|refine zd ?_|refine q9 ?_|refine q8 ?_|refine zc rfl (c72) rfl rfl ?_|refine ze rfl (c72) rfl ?_|refine zk rfl rfl (fun _=>c72) rfl rfl ?_))
   refine⟨.inl rfl,_,_,rfl,trivial,?_⟩
   rw[h2]
theorem fn9(P:Int)(l:List Pt)(xs:List Int):Ox.Fn Tryz.prog 9 (.acons (vS P l) (.acons (vL xs) .anil)) (·=vT2 (rdI P l xs) (ordE P l xs)):=by
 refine Ox.Fn.intro xok Tryz.func9 rfl Tryz.call9 (Nat.le_of_ble_eq_true rfl) (fun E M0 up=>?_)
 refine j4 ?_
 have c70:=fn24 P l xs
 unfold vOr at c70
 by_cases h2:ordE P l xs=0
 ·have hz:=(q4d.1 h2).1
  obtain⟨r1,r2,r3,r4,_⟩:=rd_of h2
  have c71:=fn25 P l (natL xs) hz r1 (by omega)
  rw[r3,← r4] at c71
  rw[if_pos h2,h2] at c70
  (repeat (first|refine zs rfl ?_|refine zg rfl rfl rfl ?_|refine zd ?_|refine q9 ?_|refine q8 ?_|refine zc rfl (c70) rfl rfl ?_|refine ze rfl (c70) rfl ?_|refine zk rfl rfl (fun _=>c70) rfl rfl ?_|refine zc rfl (c71) rfl rfl ?_|refine ze rfl (c71) rfl ?_|refine zk rfl rfl (fun _=>c71) rfl rfl ?_))
  refine z8 rfl (fun h=>absurd h (by decide)) (fun _=>?_)
  (repeat (first|refine zs rfl ?_|refine zg rfl rfl rfl ?_|refine zd ?_|refine q9 ?_|refine q8 ?_|refine zc rfl (c71) rfl rfl ?_|refine ze rfl (c71) rfl ?_|refine zk rfl rfl (fun _=>c71) rfl rfl ?_))
  refine⟨.inl rfl,_,_,rfl,trivial,?_⟩
  rw[h2]
 ·rw[if_neg h2] at c70
  (repeat (first|refine zs rfl ?_|refine zg rfl rfl rfl ?_|refine zd ?_|refine q9 ?_|refine q8 ?_|refine zc rfl (c70) rfl rfl ?_|refine ze rfl (c70) rfl ?_|refine zk rfl rfl (fun _=>c70) rfl rfl ?_))
  refine z8 rfl (fun hc=>?_) (fun hc=>?_)
  ·(repeat (first|refine zs rfl ?_|refine zg rfl rfl rfl ?_|refine zd ?_|refine q9 ?_|refine q8 ?_))
   refine⟨.inl rfl,_,_,rfl,trivial,?_⟩
   unfold rdI;rw[if_neg h2]
  ·(simp only[↓cdL] at hc;try simp only[Ty.dflt,Int.toNat_natCast] at hc)
   omega
end Go.Proofs.YtjfafggkkjgpeaaGreatDoor
namespace Go.Proofs.YtjfafggkkjgpeaaGreatDoor
open Go Go.RowKit Ox Ox.Sh Ox.Se
attribute [local irreducible] JC JL JK JW
attribute [local irreducible] ovA stA pkV
def wasL(P:Int)(l:List Pt)(o:List Nat)(k:Nat):List Int:=(List.range k).map fun i=>gp P l (o.getD i 0) (nx1 o i)
theorem z34(P:Int)(l:List Pt)(o:List Nat)(k:Nat):wasL P l o (k+1)=wasL P l o k++[gp P l (o.getD k 0) (nx1 o k)]:=by
 unfold wasL;rw[List.range_succ,List.map_append];rfl
theorem z1i(P:Int)(l:List Pt)(o:List Nat)(k:Nat):(wasL P l o k).length=k:=by simp[wasL]
def wasI(P:Int)(l:List Pt)(xs:List Int):List Int:=if ordE P l xs=0 then wasL P l (natL xs) (natL xs).length else []
abbrev vTL(xs:List Int)(b:Int):AV:=.tup (.acons (vL xs) (.acons (vI b) .anil))
set_option maxHeartbeats 2000000 in
theorem fn10(P:Int)(l:List Pt)(xs:List Int):Ox.Fn Tryz.prog 10 (.acons (vS P l) (.acons (vL xs) .anil)) (·=vTL (wasI P l xs) (ordE P l xs)):=by
 refine Ox.Fn.intro xok Tryz.func10 rfl Tryz.call10 (Nat.le_of_ble_eq_true rfl) (fun E M0 up=>?_)
 refine j4 ?_
 have c70:=fn24 P l xs
 unfold vOr at c70
 by_cases h2:ordE P l xs=0
 ·have hz:=(q4d.1 h2).1
  obtain⟨r1,r2,r3,r4,_⟩:=rd_of h2
  have hw:wasI P l xs=wasL P l (natL xs) (natL xs).length:=by unfold wasI;rw[if_pos h2]
  rw[hw,h2]
  rw[if_pos h2,h2] at c70
  obtain⟨hP,h1,h8,hl⟩:=q7o.1 hz
  have hxl:xs.length=(natL xs).length:=(List.length_map _).symm
  have hio:∀ i,xs.getD i 0=(((natL xs).getD i 0:Nat):Int):=fun i=>by rw[← q74,r3]
  have hnt:∀ i,((nx1 (natL xs) i:Nat):Int)=xs.getD (((i:Int)+1) % (xs.length:Int)).toNat 0:=fun i=>by
   have:=q7v (natL xs) i
   rwa[r3] at this
  clear hw r3 r4 h2
  generalize natL xs=o at *
  (repeat (first|refine zs rfl ?_|refine zg rfl rfl rfl ?_|refine zd ?_|refine q9 ?_|refine q8 ?_|refine zc rfl (c70) rfl rfl ?_|refine ze rfl (c70) rfl ?_|refine zk rfl rfl (fun _=>c70) rfl rfl ?_))
  refine z8 rfl (fun h=>absurd h (by decide)) (fun _=>?_)
  (repeat (first|refine zs rfl ?_|refine zg rfl rfl rfl ?_|refine zd ?_|refine q9 ?_|refine q8 ?_))
  refine JK.ghost 8 2 (.int .i64) rfl ?_
  refine JK.loop (fun i:Nat=>⟨[(1,vL xs),(6,vH P l),(8,.lf (.osl 0)),(20,vL xs),(21,vI xs.length),(22,vI (i:Int))],[(0,.sl 2 (.int .i64) (wasL P l o i))],1⟩) (fun i=>i≤o.length) (fun i=>o.length-i) 0 (Nat.zero_le _) (by(exact z7 (by conv=>lhs;reduce))) fun i hi=>?_
  have hs:=z34 P l o i
  have hwl:(wasL P l o i).length≤8:=by rw[z1i];omega
  have hfin:i=o.length→wasL P l o i=wasL P l o o.length:=fun e=>by rw[e]
  generalize wasL P l o i=S at hs hwl hfin ⊢
  (repeat (first|refine zs rfl ?_|refine zg rfl rfl rfl ?_|refine zd ?_|refine q9 ?_|refine q8 ?_))
  refine z8 rfl (fun hc=>?_) (fun hc=>?_)
  ·(simp only[↓cdL] at hc;try simp only[Ty.dflt,Int.toNat_natCast] at hc)
   have hi':i<o.length:=by omega
   have e1:=hio i
   have e2:=hnt i
   have c65:=fn26 P l (o.getD i 0) (nx1 o i) hP hl (q4z r1 hi') (z5k r1 hi')
   have hgb:=z6n (l:=l) hP.1 (o.getD i 0) (nx1 o i)
   have hmi:=z5s (i:=i) (n:=xs.length) (by omega)
   rw[← e1,e2] at c65
   generalize gp P l (o.getD i 0) (nx1 o i)=g at c65 hs hgb
   (repeat (first|refine zs rfl ?_|refine zg rfl rfl rfl ?_|refine zd ?_|refine q9 ?_|refine q8 ?_|refine zc rfl (c65) rfl rfl ?_|refine ze rfl (c65) rfl ?_|refine zk rfl rfl (fun _=>c65) rfl rfl ?_))
   refine⟨i+1,?_,by omega,by omega⟩
   rw[hs]
   (exact z7 (by conv=>lhs;reduce))
  ·(simp only[↓cdL] at hc;try simp only[Ty.dflt,Int.toNat_natCast] at hc)
   rw[hfin (by omega)]
   (repeat (first|refine zs rfl ?_|refine zg rfl rfl rfl ?_|refine zd ?_|refine q9 ?_|refine q8 ?_))
   refine⟨.inl rfl,_,_,rfl,trivial,?_⟩
   rfl
 ·rw[if_neg h2] at c70
  (repeat (first|refine zs rfl ?_|refine zg rfl rfl rfl ?_|refine zd ?_|refine q9 ?_|refine q8 ?_|refine zc rfl (c70) rfl rfl ?_|refine ze rfl (c70) rfl ?_|refine zk rfl rfl (fun _=>c70) rfl rfl ?_))
  refine z8 rfl (fun hc=>?_) (fun hc=>?_)
  ·(repeat (first|refine zs rfl ?_|refine zg rfl rfl rfl ?_|refine zd ?_|refine q9 ?_|refine q8 ?_))
   refine⟨.inl rfl,_,_,rfl,trivial,?_⟩
   unfold wasI;rw[if_neg h2]
  ·(simp only[↓cdL] at hc;try simp only[Ty.dflt,Int.toNat_natCast] at hc)
   omega
end Go.Proofs.YtjfafggkkjgpeaaGreatDoor
