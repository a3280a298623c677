/- Texts of the proof of the statement that the last text proves. -/
import Derived.Test.YtjfafggkkjgpeaaGreatDoorPke
set_option linter.all false
set_option maxHeartbeats 2000000
namespace Ox
open Go Go.RowKit
variable {X:Ctx}{s:S}{M:Mem}{ρ:Env}{a:Act}{w w':World}{QA:Exit→S→Prop}{all l:List Oper}{P:Program}
variable {L:List (Nat×AV)}{H:List (Nat×HO)}{nx d n:Nat}{rr:List Fr}{c1 c2:List Prop}{ty ty2:TypeId}{ps ps2:String}{af af2:Array Edge}{md:Bool}
end Ox
namespace Ox
open Go Go.RowKit
variable {X:Ctx}{s:S}{M:Mem}{ρ:Env}{a:Act}{w w':World}{QA:Exit→S→Prop}{all l:List Oper}{P:Program}
variable {L:List (Nat×AV)}{H:List (Nat×HO)}{nx d m:Nat}{rr:List Fr}{c1 c2:List Prop}{ty ty2:TypeId}{ps ps2:String}{af af2:Array Edge}{md:Bool}
section
variable {x:Operand}{t:TypeId}{xs:List Int}{eid:TypeId}{e:Ty}
end
section
variable {kt vt:Ty}{t kid vid:TypeId}{es:List (Ent kt vt)}{clk n:Nat}{x:kt.den}{om ok ov:Operand}{c3:List Prop}{o:Oper}
theorem JL.mUpd(hT:MapT X.P kt vt t kid vid)(hu:opd L om=some (c1,.lf (.mp n)))(hl:lk H n=some (.map kt vt es clk))(hv:opd L ok=some (c2,.val kt x)){y:vt.den}(hy:opd L ov=some (c3,.val vt y))(hc:allP (c1++(c2++c3)))
  (k:JL X true all QA l ⟨L,updH H n (.map kt vt (mPut es clk x y) (mClk es clk x)),nx⟩):JL X true all QA (⟨none,.mapUpdate t om ok ov,ty,ps,af,none⟩::l) ⟨L,H,nx⟩:=by
 rw[q9,q9] at hc
 refine q7d rfl rfl trivial (v:=.undef) (s':=⟨L,updH H n (.map kt vt (mPut es clk x y) (mClk es clk x)),nx⟩) (fun M ρ a w h1 h2=>?_) k
 obtain⟨ms,hb,hm⟩:=q55 h1 hl
 obtain⟨cx,hx,hxe⟩:=q1j hv hc.2.1 h2
 obtain⟨cy,hy',hye⟩:=q1j hy hc.2.2 h2
 obtain⟨ms',r1,r2⟩:=z6u hT hb hm hx hy'
 refine⟨ρ,_,_,?_,Env.upTo.refl _ _,Nat.le_refl _,rfl,h1.setMap hl r1,trivial,.inr ⟨rfl,rfl⟩⟩
 simp only[execOp,q57 hu hc.1 h2,hxe,hye,Sem.run_bind,r2,Result.andThen_ok,Sem.run_pure]
end
end Ox
namespace Go.Proofs.YtjfafggkkjgpeaaGreatDoor
open Go Go.RowKit Ox
variable {E:World}{M0:Mem}{n:Nat}{rd:Option Nat}{up:Nat→Nat→Value}{dp:Nat}{QA:Exit→S→Prop}{st st' r:List Fr}{s s':S}{cs:List Prop}{md:Bool}{all l:List Oper}{d:Nat}{op:Op}{ty:TypeId}{ps:String}{af:Array Edge}{g:Bool}{gg:Nat×Bool}{v:AV}
 {f:FuncId} {args:AV} {L:List (Nat×AV)} {H:List (Nat×HO)} {nx:Nat} {kt vt:Ty} {t kid vid:TypeId} {es:List (Ent kt vt)} {clk m:Nat} {x y:kt.den} {c1 c2 c3:List Prop} {om ok ov:Operand}
theorem zs(h:stepC tys ets n false st s=some (cs,st',s'))(k:JK ⟨Tryz.prog,tys,ets,mts,E,M0,n,rd,up,dp⟩ st' QA s')(hc:allP cs:=by(first|exact trivial|(try dsimp only[allP,inK,idxC,loC,lohiC,fullC,underG,List.append,List.nil_append,List.cons_append,Ty.den,Ty.dflt,Int.toNat_natCast,List.length_cons,List.length_nil] at *);first|omega|((repeat' (first|exact trivial|assumption|refine And.intro ?_ ?_|exact fun h=>h|(intro hpk;first|exact hpk|simp only[wantB,hpk,Bool.not_false,Bool.not_true])))<;>omega)|fail)):JK ⟨Tryz.prog,tys,ets,mts,E,M0,n,rd,up,dp⟩ st QA s:=JK.step xk h k hc
theorem zu(h:stepC tys ets n true st s=some (cs,st',s'))(k:JK ⟨Tryz.prog,tys,ets,mts,E,M0,n,rd,up,dp⟩ st' QA s')(hc:allP cs:=by(first|exact trivial|(try dsimp only[allP,inK,idxC,loC,lohiC,fullC,underG,List.append,List.nil_append,List.cons_append,Ty.den,Ty.dflt,Int.toNat_natCast,List.length_cons,List.length_nil] at *);first|omega|((repeat' (first|exact trivial|assumption|refine And.intro ?_ ?_|exact fun h=>h|(intro hpk;first|exact hpk|simp only[wantB,hpk,Bool.not_false,Bool.not_true])))<;>omega)|fail)):JK ⟨Tryz.prog,tys,ets,mts,E,M0,n,rd,up,dp⟩ st QA s:=JK.step xk h k hc
theorem zg(hg:gOf all L (some gg)=some g)(h:evb tys op ⟨L,H,nx⟩=some (cs,v))(hd:ltB d n=true)(k:JK ⟨Tryz.prog,tys,ets,mts,E,M0,n,rd,up,dp⟩ (.ops md all l::r) QA ⟨(d,.gd g v)::L,H,nx⟩)
  (hc:g=true→allP cs:=by(first|(exact fun _=>trivial)|(exact fun hgd=>hgd)|(intro hgd;first|exact trivial|exact hgd|(have hge:=hgd;(try simp only[wantB,Bool.not_not,Bool.not_eq_true',decide_eq_true_eq,decide_eq_false_iff_not,beq_iff_eq,bne_iff_ne,bne_eq_false_iff_eq,ne_eq,beq_eq_false_iff_ne] at hge);(try dsimp only[allP,inK,idxC,loC,lohiC,fullC,underG,List.append,List.nil_append,List.cons_append,Ty.den,Ty.dflt,Int.toNat_natCast,List.length_cons,List.length_nil] at *);first|omega|((repeat' (first|exact hgd|exact trivial|refine And.intro ?_ ?_))<;>omega)|((repeat' (first|exact trivial|assumption|refine And.intro ?_ ?_|exact fun h=>h|(intro hpk;first|exact hpk|simp only[wantB,hpk,Bool.not_false,Bool.not_true])))<;>omega)|fail))|(exact fun hgd=>And.intro hgd (fun hpk=>Bool.and_eq_true_iff.2 ⟨hgd,by rw[hpk];rfl⟩))|(intro hgd;have hge:=hgd;simp only[wantB,Bool.and_eq_true,Bool.or_eq_true,Bool.not_not,Bool.not_eq_true',decide_eq_true_eq,decide_eq_false_iff_not,beq_iff_eq,bne_iff_ne,bne_eq_false_iff_eq,ne_eq,beq_eq_false_iff_ne] at hge;(try dsimp only[allP,inK,idxC,loC,lohiC,fullC,underG,List.append,List.nil_append,List.cons_append,Ty.den,Ty.dflt,Int.toNat_natCast,List.length_cons,List.length_nil] at *);first|omega|((repeat' (first|exact trivial|assumption|refine And.intro ?_ ?_))<;>omega)))) :
  JK ⟨Tryz.prog,tys,ets,mts,E,M0,n,rd,up,dp⟩ (.ops md all (⟨some d,op,ty,ps,af,some gg⟩::l)::r) QA ⟨L,H,nx⟩:=JK.gd xk hg h hd k hc
theorem zd{id:Nat}{ops:List Oper}(k:JK ⟨Tryz.prog,tys,ets,mts,E,M0,n,rd,up,dp⟩ (.ops false ops ops::r) QA s)(hB:(Region.lexB .any ops.toArray&&ndAll ops)=true:=by decide +kernel):JK ⟨Tryz.prog,tys,ets,mts,E,M0,n,rd,up,dp⟩ (.code (.region id ⟨ops⟩ true)::r) QA s:=JK.draw xk k hB
theorem zc(h:callA tys op ⟨L,H,nx⟩=some (cs,f,args))(hf:Ox.Fn Tryz.prog f args (·=v))(hr:v.scal=true)(hd:ltB d n=true)(k:JK ⟨Tryz.prog,tys,ets,mts,E,M0,n,rd,up,dp⟩ (.ops md all l::r) QA ⟨(d,v)::L,H,nx⟩)(hc:allP cs:=by(first|exact trivial|(try dsimp only[allP,inK,idxC,loC,lohiC,fullC,underG,List.append,List.nil_append,List.cons_append,Ty.den,Ty.dflt,Int.toNat_natCast,List.length_cons,List.length_nil] at *);first|omega|((repeat' (first|exact trivial|assumption|refine And.intro ?_ ?_|exact fun h=>h|(intro hpk;first|exact hpk|simp only[wantB,hpk,Bool.not_false,Bool.not_true])))<;>omega)|fail)) :
  JK ⟨Tryz.prog,tys,ets,mts,E,M0,n,rd,up,dp⟩ (.ops md all (⟨some d,op,ty,ps,af,none⟩::l)::r) QA ⟨L,H,nx⟩:=JK.sc h hf hr hd k hc
theorem zk(hg:gOf all L (some gg)=some g)(h:callA tys op ⟨L,H,nx⟩=some (cs,f,args))(hf:g=true→Ox.Fn Tryz.prog f args (·=v))(hr:v.scal=true)(hd:ltB d n=true)(k:JK ⟨Tryz.prog,tys,ets,mts,E,M0,n,rd,up,dp⟩ (.ops md all l::r) QA ⟨(d,.gd g v)::L,H,nx⟩)
  (hc:g=true→allP cs:=by(first|(exact fun _=>trivial)|(exact fun hgd=>hgd)|(intro hgd;first|exact trivial|exact hgd|(have hge:=hgd;(try simp only[wantB,Bool.not_not,Bool.not_eq_true',decide_eq_true_eq,decide_eq_false_iff_not,beq_iff_eq,bne_iff_ne,bne_eq_false_iff_eq,ne_eq,beq_eq_false_iff_ne] at hge);(try dsimp only[allP,inK,idxC,loC,lohiC,fullC,underG,List.append,List.nil_append,List.cons_append,Ty.den,Ty.dflt,Int.toNat_natCast,List.length_cons,List.length_nil] at *);first|omega|((repeat' (first|exact hgd|exact trivial|refine And.intro ?_ ?_))<;>omega)|((repeat' (first|exact trivial|assumption|refine And.intro ?_ ?_|exact fun h=>h|(intro hpk;first|exact hpk|simp only[wantB,hpk,Bool.not_false,Bool.not_true])))<;>omega)|fail))|(intro hgd;have hge:=hgd;simp only[wantB,Bool.and_eq_true,Bool.or_eq_true,Bool.not_not,Bool.not_eq_true',decide_eq_true_eq,decide_eq_false_iff_not,beq_iff_eq,bne_iff_ne,bne_eq_false_iff_eq,ne_eq,beq_eq_false_iff_ne] at hge;(try dsimp only[allP,inK,idxC,loC,lohiC,fullC,underG,List.append,List.nil_append,List.cons_append,Ty.den,Ty.dflt,Int.toNat_natCast,List.length_cons,List.length_nil] at *);first|omega|((repeat' (first|exact trivial|assumption|refine And.intro ?_ ?_))<;>omega)))):JK ⟨Tryz.prog,tys,ets,mts,E,M0,n,rd,up,dp⟩ (.ops md all (⟨some d,op,ty,ps,af,some gg⟩::l)::r) QA ⟨L,H,nx⟩:=JK.scg hg h hf hr hd k hc
theorem ze(h:callA tys op ⟨L,[],nx⟩=some (cs,f,args))(hf:Ox.Fn Tryz.prog f args (·=v))(hd:ltB d n=true)(k:JK ⟨Tryz.prog,tys,ets,mts,E,M0,n,rd,up,dp⟩ (.ops true all l::r) QA ⟨(d,v)::L,H,nx⟩)(hc:allP cs:=by(first|exact trivial|(try dsimp only[allP,inK,idxC,loC,lohiC,fullC,underG,List.append,List.nil_append,List.cons_append,Ty.den,Ty.dflt,Int.toNat_natCast,List.length_cons,List.length_nil] at *);first|omega|((repeat' (first|exact trivial|assumption|refine And.intro ?_ ?_|exact fun h=>h|(intro hpk;first|exact hpk|simp only[wantB,hpk,Bool.not_false,Bool.not_true])))<;>omega)|fail)) :
  JK ⟨Tryz.prog,tys,ets,mts,E,M0,n,rd,up,dp⟩ (.ops true all (⟨some d,op,ty,ps,af,none⟩::l)::r) QA ⟨L,H,nx⟩:=JK.ce h hf hd k hc
theorem zt(hg:gOf all L (some gg)=some g)(hgt:g=true){dd:Option Nat}(k:JK ⟨Tryz.prog,tys,ets,mts,E,M0,n,rd,up,dp⟩ (.ops true all (⟨dd,op,ty,ps,af,none⟩::l)::r) QA ⟨L,H,nx⟩):JK ⟨Tryz.prog,tys,ets,mts,E,M0,n,rd,up,dp⟩ (.ops true all (⟨dd,op,ty,ps,af,some gg⟩::l)::r) QA ⟨L,H,nx⟩:=JK.gT hg hgt k
theorem zfl(hg:gOf all L (some gg)=some g)(hgf:g=false)(hd:ltB d n=true)(k:JK ⟨Tryz.prog,tys,ets,mts,E,M0,n,rd,up,dp⟩ (.ops true all l::r) QA ⟨(d,.undef)::L,H,nx⟩):JK ⟨Tryz.prog,tys,ets,mts,E,M0,n,rd,up,dp⟩ (.ops true all (⟨some d,op,ty,ps,af,some gg⟩::l)::r) QA ⟨L,H,nx⟩:=JK.gF hg hgf hd k
theorem zmi(hT:MapT Tryz.prog kt vt t kid vid)(hu:opd L om=some (c1,.lf (.mp m)))(hl:lk H m=some (.map kt vt es clk))(hv:opd L ok=some (c2,.val kt x)){y:vt.den}(hy:opd L ov=some (c3,.val vt y))
  (k:JK ⟨Tryz.prog,tys,ets,mts,E,M0,n,rd,up,dp⟩ (.ops true all l::r) QA ⟨L,updH H m (.map kt vt (mPut es clk x y) (mClk es clk x)),nx⟩) (hc:allP (c1++(c2++c3)):=by(first|exact trivial|(try dsimp only[allP,inK,idxC,loC,lohiC,fullC,underG,List.append,List.nil_append,List.cons_append,Ty.den,Ty.dflt,Int.toNat_natCast,List.length_cons,List.length_nil] at *);first|omega|((repeat' (first|exact trivial|assumption|refine And.intro ?_ ?_|exact fun h=>h|(intro hpk;first|exact hpk|simp only[wantB,hpk,Bool.not_false,Bool.not_true])))<;>omega)|fail)):JK ⟨Tryz.prog,tys,ets,mts,E,M0,n,rd,up,dp⟩ (.ops true all (⟨none,.insert t om ok ov,ty,ps,af,none⟩::l)::r) QA ⟨L,H,nx⟩:=JL.mIns (X:=⟨Tryz.prog,tys,ets,mts,E,M0,n,rd,up,dp⟩)  hT hu hl hv hy hc k
theorem zmu(hT:MapT Tryz.prog kt vt t kid vid)(hu:opd L om=some (c1,.lf (.mp m)))(hl:lk H m=some (.map kt vt es clk))(hv:opd L ok=some (c2,.val kt x)){y:vt.den}(hy:opd L ov=some (c3,.val vt y))
  (k:JK ⟨Tryz.prog,tys,ets,mts,E,M0,n,rd,up,dp⟩ (.ops true all l::r) QA ⟨L,updH H m (.map kt vt (mPut es clk x y) (mClk es clk x)),nx⟩) (hc:allP (c1++(c2++c3)):=by(first|exact trivial|(try dsimp only[allP,inK,idxC,loC,lohiC,fullC,underG,List.append,List.nil_append,List.cons_append,Ty.den,Ty.dflt,Int.toNat_natCast,List.length_cons,List.length_nil] at *);first|omega|((repeat' (first|exact trivial|assumption|refine And.intro ?_ ?_|exact fun h=>h|(intro hpk;first|exact hpk|simp only[wantB,hpk,Bool.not_false,Bool.not_true])))<;>omega)|fail)):JK ⟨Tryz.prog,tys,ets,mts,E,M0,n,rd,up,dp⟩ (.ops true all (⟨none,.mapUpdate t om ok ov,ty,ps,af,none⟩::l)::r) QA ⟨L,H,nx⟩:=JL.mUpd (X:=⟨Tryz.prog,tys,ets,mts,E,M0,n,rd,up,dp⟩)  hT hu hl hv hy hc k
theorem zmd(hT:MapT Tryz.prog kt vt t kid vid){ta:TypeId}(hu:opd L om=some (c1,.lf (.mp m)))(hl:lk H m=some (.map kt vt es clk))(hv:opd L ok=some (c2,.val kt x))
  (k:JK ⟨Tryz.prog,tys,ets,mts,E,M0,n,rd,up,dp⟩ (.ops true all l::r) QA ⟨L,updH H m (.map kt vt (Ox.mDel es x) clk),nx⟩) (hc:allP (c1++c2):=by(first|exact trivial|(try dsimp only[allP,inK,idxC,loC,lohiC,fullC,underG,List.append,List.nil_append,List.cons_append,Ty.den,Ty.dflt,Int.toNat_natCast,List.length_cons,List.length_nil] at *);first|omega|((repeat' (first|exact trivial|assumption|refine And.intro ?_ ?_|exact fun h=>h|(intro hpk;first|exact hpk|simp only[wantB,hpk,Bool.not_false,Bool.not_true])))<;>omega)|fail)):JK ⟨Tryz.prog,tys,ets,mts,E,M0,n,rd,up,dp⟩ (.ops true all (⟨none,.call {callee:=.builtin .delete,args:=#[om,ok],argTypes:=#[t,ta]},ty,ps,af,none⟩::l)::r) QA ⟨L,H,nx⟩:=JL.mDel (X:=⟨Tryz.prog,tys,ets,mts,E,M0,n,rd,up,dp⟩)  hT hu hl hv hc k
theorem zmm(hT:MapT Tryz.prog kt vt t kid vid)(hd:ltB d n=true)
  (k:JK ⟨Tryz.prog,tys,ets,mts,E,M0,n,rd,up,dp⟩ (.ops true all l::r) QA ⟨(d,.lf (.mp nx))::L,(nx,.map kt vt [] 0)::H,nx+1⟩):JK ⟨Tryz.prog,tys,ets,mts,E,M0,n,rd,up,dp⟩ (.ops true all (⟨some d,.makeMap t none,ty,ps,af,none⟩::l)::r) QA ⟨L,H,nx⟩:=y8 (X:=⟨Tryz.prog,tys,ets,mts,E,M0,n,rd,up,dp⟩)  hT hd k
theorem zne(hK:EqT Tryz.prog kt t)(hu:opd L om=some (c1,.val kt x))(hv:opd L ok=some (c2,.val kt y))(hd:ltB d n=true){tt:TypeId}
  (k:JK ⟨Tryz.prog,tys,ets,mts,E,M0,n,rd,up,dp⟩ (.ops md all l::r) QA ⟨(d,.val .bool (!kt.eqB x y))::L,H,nx⟩) (hc:allP (c1++c2):=by(first|exact trivial|(try dsimp only[allP,inK,idxC,loC,lohiC,fullC,underG,List.append,List.nil_append,List.cons_append,Ty.den,Ty.dflt,Int.toNat_natCast,List.length_cons,List.length_nil] at *);first|omega|((repeat' (first|exact trivial|assumption|refine And.intro ?_ ?_|exact fun h=>h|(intro hpk;first|exact hpk|simp only[wantB,hpk,Bool.not_false,Bool.not_true])))<;>omega)|fail)):JK ⟨Tryz.prog,tys,ets,mts,E,M0,n,rd,up,dp⟩ (.ops md all (⟨some d,.binOp .neq t om ok tt,ty,ps,af,none⟩::l)::r) QA ⟨L,H,nx⟩:=JL.neQ (X:=⟨Tryz.prog,tys,ets,mts,E,M0,n,rd,up,dp⟩)  hK.key hK.ag hK.gt hu hv hd hc k
theorem zlf{x:Operand}{ty2:TypeId}{ps2:String}{af2:Array Edge}(hF:funB Tryz.prog t=true)(hu:opd (del L d) x=some (cs,v))(hv:v.fnB=true)(hd:ltB d n=true)(k:JK ⟨Tryz.prog,tys,ets,mts,E,M0,n,rd,up,dp⟩ (.ops true all l::r) QA ⟨(d,.pfn v)::L,H,nx⟩)(hc:allP cs:=by(first|exact trivial|(try dsimp only[allP,inK,idxC,loC,lohiC,fullC,underG,List.append,List.nil_append,List.cons_append,Ty.den,Ty.dflt,Int.toNat_natCast,List.length_cons,List.length_nil] at *);first|omega|((repeat' (first|exact trivial|assumption|refine And.intro ?_ ?_|exact fun h=>h|(intro hpk;first|exact hpk|simp only[wantB,hpk,Bool.not_false,Bool.not_true])))<;>omega)|fail)) :
  JK ⟨Tryz.prog,tys,ets,mts,E,M0,n,rd,up,dp⟩ (.ops true all (⟨some d,.alloc t,ty,ps,af,none⟩::⟨none,.store t (.tmp d) x,ty2,ps2,af2,none⟩::l)::r) QA ⟨L,H,nx⟩:=JK.layF (X:=⟨Tryz.prog,tys,ets,mts,E,M0,n,rd,up,dp⟩) hF hu hv hd hc k
theorem zdf{x:Operand}(hF:funB Tryz.prog t=true)(hu:opd L x=some (cs,.pfn v))(hd:ltB d n=true)(k:JK ⟨Tryz.prog,tys,ets,mts,E,M0,n,rd,up,dp⟩ (.ops md all l::r) QA ⟨(d,v)::L,H,nx⟩)(hc:allP cs:=by(first|exact trivial|(try dsimp only[allP,inK,idxC,loC,lohiC,fullC,underG,List.append,List.nil_append,List.cons_append,Ty.den,Ty.dflt,Int.toNat_natCast,List.length_cons,List.length_nil] at *);first|omega|((repeat' (first|exact trivial|assumption|refine And.intro ?_ ?_|exact fun h=>h|(intro hpk;first|exact hpk|simp only[wantB,hpk,Bool.not_false,Bool.not_true])))<;>omega)|fail)) :
  JK ⟨Tryz.prog,tys,ets,mts,E,M0,n,rd,up,dp⟩ (.ops md all (⟨some d,.load t x,ty,ps,af,none⟩::l)::r) QA ⟨L,H,nx⟩:=JK.ldF (X:=⟨Tryz.prog,tys,ets,mts,E,M0,n,rd,up,dp⟩) hF hu hd hc k
theorem zmo(hT:MapT Tryz.prog kt vt t kid vid)(hu:opd L om=some (c1,.lf (.mp m)))(hl:lk H m=some (.map kt vt es clk))(hv:opd L ok=some (c2,.val kt x))(hd:ltB d n=true)
  (k:JK ⟨Tryz.prog,tys,ets,mts,E,M0,n,rd,up,dp⟩ (.ops true all l::r) QA ⟨(d,.tup (.acons (.val vt (mGet es x vt.dflt)) (.acons (.val .bool (mHas es x)) .anil)))::L,H,nx⟩) (hc:allP (c1++c2):=by(first|exact trivial|(try dsimp only[allP,inK,idxC,loC,lohiC,fullC,underG,List.append,List.nil_append,List.cons_append,Ty.den,Ty.dflt,Int.toNat_natCast,List.length_cons,List.length_nil] at *);first|omega|((repeat' (first|exact trivial|assumption|refine And.intro ?_ ?_|exact fun h=>h|(intro hpk;first|exact hpk|simp only[wantB,hpk,Bool.not_false,Bool.not_true])))<;>omega)|fail)) :
  JK ⟨Tryz.prog,tys,ets,mts,E,M0,n,rd,up,dp⟩ (.ops true all (⟨some d,.lookup t om ok true,ty,ps,af,none⟩::l)::r) QA ⟨L,H,nx⟩:=z5t (X:=⟨Tryz.prog,tys,ets,mts,E,M0,n,rd,up,dp⟩) hT hu hl hv hd k hc
end Go.Proofs.YtjfafggkkjgpeaaGreatDoor
namespace Ox
open Go Go.RowKit
variable {X:Ctx}{s:S}{M:Mem}{ρ:Env}{a:Act}{w w':World}{QA:Exit→S→Prop}{all l:List Oper}{o:Oper}
end Ox
namespace Ox
open Go Go.RowKit
variable {X:Ctx}{s:S}{M:Mem}{ρ:Env}{a:Act}{w w':World}{QA:Exit→S→Prop}{all l:List Oper}{md:Bool}
variable {L:List (Nat×AV)}{H:List (Nat×HO)}{nx m lo hi:Nat}{t:TypeId}{e:Ty}{eid:TypeId}{xs:List e.den}{c1:List Prop}{x:Operand}{ty:TypeId}{ps:String}{af:Array Edge}{f:Bool}
end Ox
namespace Ox
open Go Go.RowKit
variable {X:Ctx}{s:S}{QA:Exit→S→Prop}
end Ox
namespace Go.Proofs.YtjfafggkkjgpeaaGreatDoor
open Go Go.RowKit Ox Ox.Sh Ox.Se
attribute [local irreducible] JC JL JK JW
abbrev vI(n:Int):AV:=.val (.int .i64) n
abbrev vB(b:Bool):AV:=.val .bool b
abbrev vL(xs:List Int):AV:=.val (.slice (.int .i64)) xs
abbrev ptT:Ty:=.cons (.int .i64) (.cons (.int .i64) .nil)
abbrev vP(z:Pt):AV:=.val ptT z
abbrev vD(l:List Pt):AV:=.val (.slice ptT) l
abbrev seT:Ty:=.cons (.int .i64) (.cons (.slice ptT) .nil)
abbrev mkS(P:Int)(l:List Pt):seT.den:=(P,l,())
abbrev vS(P:Int)(l:List Pt):AV:=.val seT (mkS P l)
abbrev pI(n:Int):AV:=.val (.ptr (.int .i64)) (some n)
abbrev vT2(a b:Int):AV:=.tup (.acons (vI a) (.acons (vI b) .anil))
theorem k0{α:Type}(xs:List α){i:Nat}(h:i<xs.length)(d:α):xs.getD i d=xs[i]:=by
 simp[List.getD_eq_getElem?_getD,List.getElem?_eq_getElem h]
theorem fn76(x lo hi:Int):Ox.Fn Tryz.prog 76 (.acons (vI x) (.acons (pI lo) (.acons (pI hi) .anil))) (·=vB (decide (x<lo∨x>hi))):=by
 refine Ox.Fn.intro xok Tryz.func76 rfl Tryz.call76 (Nat.le_of_ble_eq_true rfl) (fun E M0 up=>?_)
 refine z8 ?_
 (repeat (first|refine zs rfl ?_|refine zg rfl rfl rfl ?_|refine zd ?_|refine q8 ?_|refine q7 ?_))
 refine⟨.inl rfl,_,_,rfl,trivial,?_⟩
 by_cases h:x<lo<;>simp[h]
def idxB{α:Type}(p:α→Bool):List α→Nat→Int
 |[],_=>-1
 |x::r,i=>if p x then(i:Int) else idxB p r (i+1)
theorem q0j{α:Type}{p:α→Bool}:∀ {xs:List α} {i:Nat},(0≤idxB p xs i)↔xs.any p=true
 |[],i=>by simp[idxB]
 |x::r,i=>by
  simp only[idxB,List.any_cons,Bool.or_eq_true]
  by_cases h:p x=true
  ·simp[h]
  ·rw[if_neg h,q0j];simp[h]
theorem fn136{f:FuncId}{t1 t2:Ty}{x1:t1.den}{x2:t2.den}(xs:List Int)(p:Int→Bool)(h:∀ x∈xs,Ox.Fn Tryz.prog f (.acons (vI x) (.acons (.val t1 x1) (.acons (.val t2 x2) .anil))) (·=vB (p x))) :
  Ox.Fn Tryz.prog 136 (.acons (vL xs) (.acons (.fn f .anil (.acons (.val t1 x1) (.acons (.val t2 x2) .anil))) .anil)) (·=vI (idxB p xs 0)):=by
 refine Ox.Fn.intro xok Tryz.func136 rfl Tryz.call136 (Nat.le_of_ble_eq_true rfl) (fun E M0 up=>?_)
 refine z8 ?_
 refine JK.lenOf 0 rfl fun hlen=>?_
 replace hlen:xs.length≤9223372036854775807:=hlen.1
 (repeat (first|refine zs rfl ?_|refine zg rfl rfl rfl ?_|refine zd ?_|refine q8 ?_|refine q7 ?_))
 refine JK.loop (fun i:Nat=>⟨[(0,vL xs),(1,.fn f .anil (.acons (.val t1 x1) (.acons (.val t2 x2) .anil))),(7,vI xs.length),(8,vI (i:Int))],[],0⟩) (fun i=>i≤xs.length∧idxB p xs 0=idxB p (xs.drop i) i) (fun i=>xs.length-i) 0 (by simp) (by(exact z6 (by conv=>lhs;reduce))) fun i ⟨hi,hn⟩=>?_
 (repeat (first|refine zs rfl ?_|refine zg rfl rfl rfl ?_|refine zd ?_|refine q8 ?_|refine q7 ?_))
 refine z5 rfl (fun hc=>?_) (fun hc=>?_)
 ·(simp only[↓cdL] at hc;try simp only[Ty.dflt,Int.toNat_natCast] at hc)
  have hi':i<xs.length:=by omega
  have hx:=h (xs.getD i 0) (by rw[k0 xs hi'];exact List.getElem_mem hi')
  (repeat (first|refine zs rfl ?_|refine zg rfl rfl rfl ?_|refine zd ?_|refine q8 ?_|refine q7 ?_|refine zc rfl (hx) rfl rfl ?_|refine ze rfl (hx) rfl ?_|refine zk rfl rfl (fun _=>hx) rfl rfl ?_))
  refine z5 rfl (fun hd=>?_) (fun hd=>?_)
  ·(repeat (first|refine zs rfl ?_|refine zg rfl rfl rfl ?_|refine zd ?_|refine q8 ?_|refine q7 ?_))
   refine⟨.inl rfl,_,_,rfl,trivial,?_⟩
   rw[k0 xs hi'] at hd
   rw[hn,List.drop_eq_getElem_cons hi',idxB,if_pos hd]
  ·(repeat (first|refine zs rfl ?_|refine zg rfl rfl rfl ?_|refine zd ?_|refine q8 ?_|refine q7 ?_))
   rw[k0 xs hi'] at hd
   refine⟨i+1,by(exact z6 (by conv=>lhs;reduce)),⟨by omega,?_⟩,by omega⟩
   rw[hn,List.drop_eq_getElem_cons hi',idxB,if_neg (by rw[hd];simp)]
 ·(simp only[↓cdL] at hc;try simp only[Ty.dflt,Int.toNat_natCast] at hc)
  (repeat (first|refine zs rfl ?_|refine zg rfl rfl rfl ?_|refine zd ?_|refine q8 ?_|refine q7 ?_))
  refine⟨.inl rfl,_,_,rfl,trivial,?_⟩
  obtain rfl:i=xs.length:=by omega
  rw[hn,List.drop_length];rfl
theorem fn68{f:FuncId}{t1 t2:Ty}{x1:t1.den}{x2:t2.den}(xs:List Int)(p:Int→Bool)(h:∀ x∈xs,Ox.Fn Tryz.prog f (.acons (vI x) (.acons (.val t1 x1) (.acons (.val t2 x2) .anil))) (·=vB (p x))) :
  Ox.Fn Tryz.prog 68 (.acons (vL xs) (.acons (.fn f .anil (.acons (.val t1 x1) (.acons (.val t2 x2) .anil))) .anil)) (·=vB (xs.any p)):=by
 refine Ox.Fn.intro xok Tryz.func68 rfl Tryz.call68 (Nat.le_of_ble_eq_true rfl) (fun E M0 up=>?_)
 refine z8 ?_
 (repeat (first|refine zs rfl ?_|refine zg rfl rfl rfl ?_|refine zd ?_|refine q8 ?_|refine q7 ?_|refine zc rfl (fn136 xs p h) rfl rfl ?_|refine ze rfl (fn136 xs p h) rfl ?_|refine zk rfl rfl (fun _=>fn136 xs p h) rfl rfl ?_))
 refine⟨.inl rfl,_,_,rfl,trivial,?_⟩
 refine congrArg vB ?_
 rw[Bool.eq_iff_iff,← q0j (p:=p) (i:=0)]
 simp
theorem fn35(lo hi:Int)(xs:List Int):Ox.Fn Tryz.prog 35 (.acons (vI lo) (.acons (vI hi) (.acons (vL xs) .anil))) (·=vB (decide (∀ x∈xs,lo≤x∧x≤hi))):=by
 refine Ox.Fn.intro xok Tryz.func35 rfl Tryz.call35 (Nat.le_of_ble_eq_true rfl) (fun E M0 up=>?_)
 refine z8 ?_
 (repeat (first|refine zs rfl ?_|refine zg rfl rfl rfl ?_|refine zd ?_|refine q8 ?_|refine q7 ?_|refine zc rfl (fn68 xs (fun x=>decide (x<lo∨x>hi)) (fun x _=>fn76 x lo hi)) rfl rfl ?_|refine ze rfl (fn68 xs (fun x=>decide (x<lo∨x>hi)) (fun x _=>fn76 x lo hi)) rfl ?_|refine zk rfl rfl (fun _=>fn68 xs (fun x=>decide (x<lo∨x>hi)) (fun x _=>fn76 x lo hi)) rfl rfl ?_))
 refine⟨.inl rfl,_,_,rfl,trivial,?_⟩
 refine congrArg vB ?_
 rw[Bool.eq_iff_iff]
 simp only[Bool.not_eq_true',List.any_eq_false,decide_eq_true_eq]
 refine⟨fun h x hx=>?_,fun h x hx=>?_⟩
 ·have:=h x hx;omega
 ·have:=h x hx;omega
def maxL:List Int→Int
 |[]=>0
 |x::r=>r.foldl Max.max x
theorem z0l{xs:List Int}(h:xs≠[])(x:Int):maxL (xs++[x])=Max.max (maxL xs) x:=by
 cases xs with
 |nil=>exact absurd rfl h
 |cons y r=>rw[List.cons_append,maxL,maxL,List.foldl_append];rfl
theorem fn59(xs:List Int)(h:1≤xs.length):Ox.Fn Tryz.prog 59 (.acons (vL xs) .anil) (·=vI (maxL xs)):=by
 refine Ox.Fn.intro xok Tryz.func59 rfl Tryz.call59 (Nat.le_of_ble_eq_true rfl) (fun E M0 up=>?_)
 refine z8 ?_
 refine JK.lenOf 0 rfl fun hlen=>?_
 replace hlen:xs.length≤9223372036854775807:=hlen.1
 (repeat (first|refine zs rfl ?_|refine zg rfl rfl rfl ?_|refine zd ?_|refine q8 ?_|refine q7 ?_))
 refine z5 rfl (fun hc=>?_) (fun hc=>?_)
 ·(simp only[↓cdL] at hc;try simp only[Ty.dflt,Int.toNat_natCast] at hc)
  omega
 ·(repeat (first|refine zs rfl ?_|refine zg rfl rfl rfl ?_|refine zd ?_|refine q8 ?_|refine q7 ?_))
  refine JK.loop (fun k:Nat=>⟨[(0,vL xs),(3,vI (maxL (xs.take k))),(4,vI (k:Int))],[],0⟩) (fun k=>1≤k∧k≤xs.length) (fun k=>xs.length-k) 1 ⟨Nat.le_refl _,h⟩ ?_ fun k ⟨hk1,hk⟩=>?_
  ·have e:maxL (xs.take 1)=xs.getD 0 0:=by
    cases xs with
    |nil=>simp at h
    |cons x r=>rfl
   rw[e]
   (exact z6 (by conv=>lhs;reduce))
  ·have hnx:k<xs.length→maxL (xs.take (k+1))=Max.max (maxL (xs.take k)) (xs.getD k 0):=fun hlt=>by
    rw[List.take_succ,List.getElem?_eq_getElem hlt,k0 xs hlt]
    exact z0l (by intro e;have:=congrArg List.length e;rw[List.length_take,List.length_nil] at this;omega) _
   (repeat (first|refine zs rfl ?_|refine zg rfl rfl rfl ?_|refine zd ?_|refine q8 ?_|refine q7 ?_))
   refine z5 rfl (fun hd=>?_) (fun hd=>?_)
   ·(simp only[↓cdL] at hd;try simp only[Ty.dflt,Int.toNat_natCast] at hd)
    (repeat (first|refine zs rfl ?_|refine zg rfl rfl rfl ?_|refine zd ?_|refine q8 ?_|refine q7 ?_))
    refine⟨k+1,?_,⟨by omega,by omega⟩,by omega⟩
    rw[hnx (by omega)]
    (exact z6 (by conv=>lhs;reduce))
   ·(simp only[↓cdL] at hd;try simp only[Ty.dflt,Int.toNat_natCast] at hd)
    (repeat (first|refine zs rfl ?_|refine zg rfl rfl rfl ?_|refine zd ?_|refine q8 ?_|refine q7 ?_))
    refine⟨.inl rfl,_,_,rfl,trivial,?_⟩
    rw[List.take_of_length_le (by omega)]
theorem fn137(xs:List Int)(h:1≤xs.length):Ox.Fn Tryz.prog 137 (.acons (vL xs) .anil) (·=vI (maxL xs)):=by
 refine Ox.Fn.intro xok Tryz.func137 rfl Tryz.call137 (Nat.le_of_ble_eq_true rfl) (fun E M0 up=>?_)
 refine z8 ?_
 refine JK.lenOf 0 rfl fun hlen=>?_
 replace hlen:xs.length≤9223372036854775807:=hlen.1
 (repeat (first|refine zs rfl ?_|refine zg rfl rfl rfl ?_|refine zd ?_|refine q8 ?_|refine q7 ?_))
 refine z5 rfl (fun hc=>?_) (fun hc=>?_)
 ·(simp only[↓cdL] at hc;try simp only[Ty.dflt,Int.toNat_natCast] at hc)
  omega
 ·(repeat (first|refine zs rfl ?_|refine zg rfl rfl rfl ?_|refine zd ?_|refine q8 ?_|refine q7 ?_))
  refine JK.loop (fun k:Nat=>⟨[(0,vL xs),(3,vI (maxL (xs.take k))),(4,vI (k:Int))],[],0⟩) (fun k=>1≤k∧k≤xs.length) (fun k=>xs.length-k) 1 ⟨Nat.le_refl _,h⟩ ?_ fun k ⟨hk1,hk⟩=>?_
  ·have e:maxL (xs.take 1)=xs.getD 0 0:=by
    cases xs with
    |nil=>simp at h
    |cons x r=>rfl
   rw[e]
   (exact z6 (by conv=>lhs;reduce))
  ·have hnx:k<xs.length→maxL (xs.take (k+1))=Max.max (maxL (xs.take k)) (xs.getD k 0):=fun hlt=>by
    rw[List.take_succ,List.getElem?_eq_getElem hlt,k0 xs hlt]
    exact z0l (by intro e;have:=congrArg List.length e;rw[List.length_take,List.length_nil] at this;omega) _
   (repeat (first|refine zs rfl ?_|refine zg rfl rfl rfl ?_|refine zd ?_|refine q8 ?_|refine q7 ?_))
   refine z5 rfl (fun hd=>?_) (fun hd=>?_)
   ·(simp only[↓cdL] at hd;try simp only[Ty.dflt,Int.toNat_natCast] at hd)
    (repeat (first|refine zs rfl ?_|refine zg rfl rfl rfl ?_|refine zd ?_|refine q8 ?_|refine q7 ?_))
    refine⟨k+1,?_,⟨by omega,by omega⟩,by omega⟩
    rw[hnx (by omega)]
    (exact z6 (by conv=>lhs;reduce))
   ·(simp only[↓cdL] at hd;try simp only[Ty.dflt,Int.toNat_natCast] at hd)
    (repeat (first|refine zs rfl ?_|refine zg rfl rfl rfl ?_|refine zd ?_|refine q8 ?_|refine q7 ?_))
    refine⟨.inl rfl,_,_,rfl,trivial,?_⟩
    rw[List.take_of_length_le (by omega)]
end Go.Proofs.YtjfafggkkjgpeaaGreatDoor
namespace Go.Proofs.YtjfafggkkjgpeaaGreatDoor
open Go Go.RowKit Ox Ox.Sh Ox.Se
attribute [local irreducible] JC JL JK JW
def okPt(P:Int)(s:Pt):Prop:=(0≤s.1∧s.1<P)∧1≤s.2.1∧s.2.1≤10000
instance (P:Int):DecidablePred (okPt P):=fun s=>by unfold okPt;infer_instance
theorem fn200(s:Pt)(P:Int)(hP:1≤P∧P≤1000):Ox.Fn Tryz.prog 200 (.acons (vP s) (.acons (pI P) .anil)) (·=vB (!decide (okPt P s))):=by
 obtain⟨a,b,_⟩:=s
 refine Ox.Fn.intro xok Tryz.func200 rfl Tryz.call200 (Nat.le_of_ble_eq_true rfl) (fun E M0 up=>?_)
 refine z8 ?_
 have h1:=fn35 0 (P-1) (a::List.nil)
 have h2:=fn35 1 10000 (b::List.nil)
 have e1:(∀ x∈[a],0≤x∧x≤P-1)↔(0≤a∧a<P):=by simp;omega
 have e2:(∀ x∈[b],1≤x∧x≤10000)↔(1≤b∧b≤10000):=by simp
 rw[decide_eq_decide.2 e1] at h1
 rw[decide_eq_decide.2 e2] at h2
 have e3:okPt P (a,b,())↔(0≤a∧a<P)∧1≤b∧b≤10000:=Iff.rfl
 by_cases c1:0≤a∧a<P
 ·rw[decide_eq_true c1] at h1
  (repeat (first|refine zt rfl rfl ?_|refine zs rfl ?_|refine zg rfl rfl rfl ?_|refine zd ?_|refine q8 ?_|refine q7 ?_|refine zc rfl (h1) rfl rfl ?_|refine ze rfl (h1) rfl ?_|refine zk rfl rfl (fun _=>h1) rfl rfl ?_|refine zc rfl (h2) rfl rfl ?_|refine ze rfl (h2) rfl ?_|refine zk rfl rfl (fun _=>h2) rfl rfl ?_))
  refine⟨.inl rfl,_,_,rfl,trivial,?_⟩
  refine congrArg vB ?_
  by_cases c2:1≤b∧b≤10000
  ·have:okPt P (a,b,()):=⟨c1,c2⟩
   rw[decide_eq_true this,decide_eq_true c2];rfl
  ·have:¬ okPt P (a,b,()):=fun h=>c2 h.2
   rw[decide_eq_false this,decide_eq_false c2];rfl
 ·rw[decide_eq_false c1] at h1
  (repeat (first|refine zs rfl ?_|refine zg rfl rfl rfl ?_|refine zd ?_|refine q8 ?_|refine q7 ?_|refine zc rfl (h1) rfl rfl ?_|refine ze rfl (h1) rfl ?_|refine zk rfl rfl (fun _=>h1) rfl rfl ?_))
  (repeat (first|refine zfl rfl rfl rfl ?_|refine z4y rfl rfl rfl rfl (by(first|exact trivial|(try dsimp only[allP,inK,idxC,loC,lohiC,fullC,underG,List.append,List.nil_append,List.cons_append,Ty.den,Ty.dflt,Int.toNat_natCast,List.length_cons,List.length_nil] at *);first|omega|((repeat' (first|exact trivial|assumption|refine And.intro ?_ ?_|exact fun h=>h|(intro hpk;first|exact hpk|simp only[wantB,hpk,Bool.not_false,Bool.not_true])))<;>omega)|fail)) (by(first|exact trivial|(try dsimp only[allP,inK,idxC,loC,lohiC,fullC,underG,List.append,List.nil_append,List.cons_append,Ty.den,Ty.dflt,Int.toNat_natCast,List.length_cons,List.length_nil] at *);first|omega|((repeat' (first|exact trivial|assumption|refine And.intro ?_ ?_|exact fun h=>h|(intro hpk;first|exact hpk|simp only[wantB,hpk,Bool.not_false,Bool.not_true])))<;>omega)|fail)) ?_|refine zs rfl ?_|refine q7 ?_))
  refine⟨.inl rfl,_,_,rfl,trivial,?_⟩
  refine congrArg vB ?_
  have:¬ okPt P (a,b,()):=fun h=>c1 h.1
  rw[decide_eq_false this];rfl
theorem fn242{f:FuncId}{t1:Ty}{x1:t1.den}(xs:List Pt)(p:Pt→Bool)(h:∀ x∈xs,Ox.Fn Tryz.prog f (.acons (vP x) (.acons (.val t1 x1) .anil)) (·=vB (p x))) :
  Ox.Fn Tryz.prog 242 (.acons (vD xs) (.acons (.fn f .anil (.acons (.val t1 x1) .anil)) .anil)) (·=vI (idxB p xs 0)):=by
 refine Ox.Fn.intro xok Tryz.func242 rfl Tryz.call242 (Nat.le_of_ble_eq_true rfl) (fun E M0 up=>?_)
 refine z8 ?_
 refine JK.lenOf 0 rfl fun hlen=>?_
 replace hlen:xs.length≤9223372036854775807:=hlen.1
 (repeat (first|refine zs rfl ?_|refine zg rfl rfl rfl ?_|refine zd ?_|refine q8 ?_|refine q7 ?_))
 refine JK.loop (fun i:Nat=>⟨[(0,vD xs),(1,.fn f .anil (.acons (.val t1 x1) .anil)),(7,vI xs.length),(8,vI (i:Int))],[],0⟩) (fun i=>i≤xs.length∧idxB p xs 0=idxB p (xs.drop i) i) (fun i=>xs.length-i) 0 (by simp) (by(exact z6 (by conv=>lhs;reduce))) fun i ⟨hi,hn⟩=>?_
 (repeat (first|refine zs rfl ?_|refine zg rfl rfl rfl ?_|refine zd ?_|refine q8 ?_|refine q7 ?_))
 refine z5 rfl (fun hc=>?_) (fun hc=>?_)
 ·(simp only[↓cdL] at hc;try simp only[Ty.dflt,Int.toNat_natCast] at hc)
  have hi':i<xs.length:=by omega
  have hx:=h (xs.getD i zP) (by rw[k0 xs hi'];exact List.getElem_mem hi')
  (repeat (first|refine zs rfl ?_|refine zg rfl rfl rfl ?_|refine zd ?_|refine q8 ?_|refine q7 ?_|refine zc rfl (hx) rfl rfl ?_|refine ze rfl (hx) rfl ?_|refine zk rfl rfl (fun _=>hx) rfl rfl ?_))
  refine z5 rfl (fun hd=>?_) (fun hd=>?_)
  ·(repeat (first|refine zs rfl ?_|refine zg rfl rfl rfl ?_|refine zd ?_|refine q8 ?_|refine q7 ?_))
   refine⟨.inl rfl,_,_,rfl,trivial,?_⟩
   rw[k0 xs hi'] at hd
   rw[hn,List.drop_eq_getElem_cons hi',idxB,if_pos hd]
  ·(repeat (first|refine zs rfl ?_|refine zg rfl rfl rfl ?_|refine zd ?_|refine q8 ?_|refine q7 ?_))
   rw[k0 xs hi'] at hd
   refine⟨i+1,by(exact z6 (by conv=>lhs;reduce)),⟨by omega,?_⟩,by omega⟩
   rw[hn,List.drop_eq_getElem_cons hi',idxB,if_neg (by rw[hd];simp)]
 ·(simp only[↓cdL] at hc;try simp only[Ty.dflt,Int.toNat_natCast] at hc)
  (repeat (first|refine zs rfl ?_|refine zg rfl rfl rfl ?_|refine zd ?_|refine q8 ?_|refine q7 ?_))
  refine⟨.inl rfl,_,_,rfl,trivial,?_⟩
  obtain rfl:i=xs.length:=by omega
  rw[hn,List.drop_length];rfl
theorem fn201{f:FuncId}{t1:Ty}{x1:t1.den}(xs:List Pt)(p:Pt→Bool)(h:∀ x∈xs,Ox.Fn Tryz.prog f (.acons (vP x) (.acons (.val t1 x1) .anil)) (·=vB (p x))) :
  Ox.Fn Tryz.prog 201 (.acons (vD xs) (.acons (.fn f .anil (.acons (.val t1 x1) .anil)) .anil)) (·=vB (xs.any p)):=by
 refine Ox.Fn.intro xok Tryz.func201 rfl Tryz.call201 (Nat.le_of_ble_eq_true rfl) (fun E M0 up=>?_)
 refine z8 ?_
 (repeat (first|refine zs rfl ?_|refine zg rfl rfl rfl ?_|refine zd ?_|refine q8 ?_|refine q7 ?_|refine zc rfl (fn242 xs p h) rfl rfl ?_|refine ze rfl (fn242 xs p h) rfl ?_|refine zk rfl rfl (fun _=>fn242 xs p h) rfl rfl ?_))
 refine⟨.inl rfl,_,_,rfl,trivial,?_⟩
 refine congrArg vB ?_
 rw[Bool.eq_iff_iff,← q0j (p:=p) (i:=0)]
 simp
theorem fn78{f:FuncId}{t1:Ty}{x1:t1.den}(xs:List Int)(p:Int→Bool)(h:∀ x∈xs,Ox.Fn Tryz.prog f (.acons (vI x) (.acons (.val t1 x1) .anil)) (·=vB (p x))) :
  Ox.Fn Tryz.prog 78 (.acons (vL xs) (.acons (.fn f .anil (.acons (.val t1 x1) .anil)) .anil)) (·=vI (idxB p xs 0)):=by
 refine Ox.Fn.intro xok Tryz.func78 rfl Tryz.call78 (Nat.le_of_ble_eq_true rfl) (fun E M0 up=>?_)
 refine z8 ?_
 refine JK.lenOf 0 rfl fun hlen=>?_
 replace hlen:xs.length≤9223372036854775807:=hlen.1
 (repeat (first|refine zs rfl ?_|refine zg rfl rfl rfl ?_|refine zd ?_|refine q8 ?_|refine q7 ?_))
 refine JK.loop (fun i:Nat=>⟨[(0,vL xs),(1,.fn f .anil (.acons (.val t1 x1) .anil)),(7,vI xs.length),(8,vI (i:Int))],[],0⟩) (fun i=>i≤xs.length∧idxB p xs 0=idxB p (xs.drop i) i) (fun i=>xs.length-i) 0 (by simp) (by(exact z6 (by conv=>lhs;reduce))) fun i ⟨hi,hn⟩=>?_
 (repeat (first|refine zs rfl ?_|refine zg rfl rfl rfl ?_|refine zd ?_|refine q8 ?_|refine q7 ?_))
 refine z5 rfl (fun hc=>?_) (fun hc=>?_)
 ·(simp only[↓cdL] at hc;try simp only[Ty.dflt,Int.toNat_natCast] at hc)
  have hi':i<xs.length:=by omega
  have hx:=h (xs.getD i 0) (by rw[k0 xs hi'];exact List.getElem_mem hi')
  (repeat (first|refine zs rfl ?_|refine zg rfl rfl rfl ?_|refine zd ?_|refine q8 ?_|refine q7 ?_|refine zc rfl (hx) rfl rfl ?_|refine ze rfl (hx) rfl ?_|refine zk rfl rfl (fun _=>hx) rfl rfl ?_))
  refine z5 rfl (fun hd=>?_) (fun hd=>?_)
  ·(repeat (first|refine zs rfl ?_|refine zg rfl rfl rfl ?_|refine zd ?_|refine q8 ?_|refine q7 ?_))
   refine⟨.inl rfl,_,_,rfl,trivial,?_⟩
   rw[k0 xs hi'] at hd
   rw[hn,List.drop_eq_getElem_cons hi',idxB,if_pos hd]
  ·(repeat (first|refine zs rfl ?_|refine zg rfl rfl rfl ?_|refine zd ?_|refine q8 ?_|refine q7 ?_))
   rw[k0 xs hi'] at hd
   refine⟨i+1,by(exact z6 (by conv=>lhs;reduce)),⟨by omega,?_⟩,by omega⟩
   rw[hn,List.drop_eq_getElem_cons hi',idxB,if_neg (by rw[hd];simp)]
 ·(simp only[↓cdL] at hc;try simp only[Ty.dflt,Int.toNat_natCast] at hc)
  (repeat (first|refine zs rfl ?_|refine zg rfl rfl rfl ?_|refine zd ?_|refine q8 ?_|refine q7 ?_))
  refine⟨.inl rfl,_,_,rfl,trivial,?_⟩
  obtain rfl:i=xs.length:=by omega
  rw[hn,List.drop_length];rfl
theorem fn39{f:FuncId}{t1:Ty}{x1:t1.den}(xs:List Int)(p:Int→Bool)(h:∀ x∈xs,Ox.Fn Tryz.prog f (.acons (vI x) (.acons (.val t1 x1) .anil)) (·=vB (p x))) :
  Ox.Fn Tryz.prog 39 (.acons (vL xs) (.acons (.fn f .anil (.acons (.val t1 x1) .anil)) .anil)) (·=vB (xs.any p)):=by
 refine Ox.Fn.intro xok Tryz.func39 rfl Tryz.call39 (Nat.le_of_ble_eq_true rfl) (fun E M0 up=>?_)
 refine z8 ?_
 (repeat (first|refine zs rfl ?_|refine zg rfl rfl rfl ?_|refine zd ?_|refine q8 ?_|refine q7 ?_|refine zc rfl (fn78 xs p h) rfl rfl ?_|refine ze rfl (fn78 xs p h) rfl ?_|refine zk rfl rfl (fun _=>fn78 xs p h) rfl rfl ?_))
 refine⟨.inl rfl,_,_,rfl,trivial,?_⟩
 refine congrArg vB ?_
 rw[Bool.eq_iff_iff,← q0j (p:=p) (i:=0)]
 simp
def seE(P:Int)(l:List Pt):Int:=if ¬ (1≤P∧P≤1000) then 2 else if l.length<1∨l.length>8 then 6 else if l.any (fun s=>!decide (okPt P s))=true then 3 else 0
theorem q1h{P:Int}{l:List Pt}:seE P l=0↔(1≤P∧P≤1000)∧1≤l.length∧l.length≤8∧okP P l:=by
 have e:l.any (fun s=>!decide (okPt P s))=true↔¬ okP P l:=by
  rw[List.any_eq_true]
  constructor
  ·rintro⟨s,hs,h⟩ ho
   have:=ho s hs
   have:okPt P s:=this
   simp[this] at h
  ·intro h
   refine Classical.byContradiction fun hn=>h fun s hs=>?_
   refine Classical.byContradiction fun hb=>hn ⟨s,hs,?_⟩
   have:¬ okPt P s:=hb
   simp[this]
 unfold seE
 split
 ·rename_i h;exact⟨fun h'=>absurd h' (by decide),fun h'=>absurd h'.1 h⟩
 ·rename_i h
  split
  ·rename_i h2;exact⟨fun h'=>absurd h' (by decide),fun h'=>absurd h2 (by omega)⟩
  ·rename_i h2
   split
   ·rename_i h3;exact⟨fun h'=>absurd h' (by decide),fun h'=>absurd h'.2.2.2 (e.1 h3)⟩
   ·rename_i h3
    refine⟨fun _=>⟨Classical.not_not.1 h,by omega,by omega,Classical.byContradiction fun hb=>h3 (e.2 hb)⟩,fun _=>rfl⟩
theorem fn127(P:Int)(l:List Pt):Ox.Fn Tryz.prog 127 (.acons (vI P) (.acons (vD l) .anil)) (·=vI (seE P l)):=by
 refine Ox.Fn.intro xok Tryz.func127 rfl Tryz.call127 (Nat.le_of_ble_eq_true rfl) (fun E M0 up=>?_)
 refine z8 ?_
 refine JK.lenOf 1 rfl fun hlen=>?_
 replace hlen:l.length≤9223372036854775807:=hlen.1
 have h1:=fn35 1 1000 (P::List.nil)
 have e1:decide (∀ x∈(P::List.nil),1≤x∧x≤1000)=decide (1≤P∧P≤1000):=decide_eq_decide.2 (by simp)
 rw[e1] at h1
 (repeat (first|refine zs rfl ?_|refine zg rfl rfl rfl ?_|refine zd ?_|refine q8 ?_|refine q7 ?_|refine zc rfl (h1) rfl rfl ?_|refine ze rfl (h1) rfl ?_|refine zk rfl rfl (fun _=>h1) rfl rfl ?_))
 refine z5 rfl (fun hc=>?_) (fun hc=>?_)
 ·(simp only[↓cdL] at hc;try simp only[Ty.dflt,Int.toNat_natCast] at hc)
  (repeat (first|refine zs rfl ?_|refine zg rfl rfl rfl ?_|refine zd ?_|refine q8 ?_|refine q7 ?_))
  refine⟨.inl rfl,_,_,rfl,trivial,?_⟩
  unfold seE;rw[if_pos hc]
 ·(simp only[↓cdL] at hc;try simp only[Ty.dflt,Int.toNat_natCast] at hc)
  have hP:1≤P∧P≤1000:=hc
  (repeat (first|refine zs rfl ?_|refine zg rfl rfl rfl ?_|refine zd ?_|refine q8 ?_|refine q7 ?_))
  refine z5 rfl (fun hd=>?_) (fun hd=>?_)
  ·(simp only[↓cdL] at hd;try simp only[Ty.dflt,Int.toNat_natCast] at hd)
   (repeat (first|refine zs rfl ?_|refine zg rfl rfl rfl ?_|refine zd ?_|refine q8 ?_|refine q7 ?_))
   refine⟨.inl rfl,_,_,rfl,trivial,?_⟩
   unfold seE;rw[if_neg (by omega),if_pos (by omega)]
  ·(simp only[↓cdL] at hd;try simp only[Ty.dflt,Int.toNat_natCast] at hd)
   have h2:=fn201 l (fun s=>!decide (okPt P s)) (fun s _=>fn200 s P hP)
   (repeat (first|refine zs rfl ?_|refine zg rfl rfl rfl ?_|refine zd ?_|refine q8 ?_|refine q7 ?_|refine zc rfl (h2) rfl rfl ?_|refine ze rfl (h2) rfl ?_|refine zk rfl rfl (fun _=>h2) rfl rfl ?_))
   refine z5 rfl (fun he=>?_) (fun he=>?_)
   ·(repeat (first|refine zs rfl ?_|refine zg rfl rfl rfl ?_|refine zd ?_|refine q8 ?_|refine q7 ?_))
    refine⟨.inl rfl,_,_,rfl,trivial,?_⟩
    unfold seE;rw[if_neg (by omega),if_neg (by omega),if_pos he]
   ·(repeat (first|refine zs rfl ?_|refine zg rfl rfl rfl ?_|refine zd ?_|refine q8 ?_|refine q7 ?_))
    refine⟨.inl rfl,_,_,rfl,trivial,?_⟩
    unfold seE;rw[if_neg (by omega),if_neg (by omega),if_neg (by rw[he];simp)]
theorem fn70(P:Int)(l:List Pt):Ox.Fn Tryz.prog 70 (.acons (vS P l) .anil) (·=vI (seE P l)):=by
 refine Ox.Fn.intro xok Tryz.func70 rfl Tryz.call70 (Nat.le_of_ble_eq_true rfl) (fun E M0 up=>?_)
 refine z8 ?_
 (repeat (first|refine zs rfl ?_|refine zg rfl rfl rfl ?_|refine zd ?_|refine q8 ?_|refine q7 ?_|refine zc rfl (fn127 P l) rfl rfl ?_|refine ze rfl (fn127 P l) rfl ?_|refine zk rfl rfl (fun _=>fn127 P l) rfl rfl ?_))
 refine⟨.inl rfl,_,_,rfl,trivial,?_⟩
 rfl
theorem fn21(P:Int)(s:Pt):Ox.Fn Tryz.prog 21 (.acons (vI P) (.acons (vP s) .anil)) (·=vB (decide (okPt P s))):=by
 obtain⟨a,b,_⟩:=s
 refine Ox.Fn.intro xok Tryz.func21 rfl Tryz.call21 (Nat.le_of_ble_eq_true rfl) (fun E M0 up=>?_)
 refine z8 ?_
 (repeat (first|refine zs rfl ?_|refine zg rfl rfl rfl ?_|refine zd ?_|refine q8 ?_|refine q7 ?_))
 refine⟨.inl rfl,_,_,rfl,trivial,?_⟩
 refine congrArg vB ?_
 unfold okPt
 by_cases c1:0≤a<;>by_cases c2:a<P<;>by_cases c3:1≤b<;>by_cases c4:b≤10000<;>simp[c1,c2,c3,c4]
theorem fn6(P:Int)(l:List Pt):Ox.Fn Tryz.prog 6 (.acons (vS P l) .anil) (·=vI (seE P l)):=by
 refine Ox.Fn.intro xok Tryz.func6 rfl Tryz.call6 (Nat.le_of_ble_eq_true rfl) (fun E M0 up=>?_)
 refine z8 ?_
 refine JK.lenOf 0 rfl fun hlen=>?_
 replace hlen:l.length≤9223372036854775807:=hlen.2.1.1
 (repeat (first|refine zs rfl ?_|refine zg rfl rfl rfl ?_|refine zd ?_|refine q8 ?_|refine q7 ?_))
 refine z5 rfl (fun hc=>?_) (fun hc=>?_)
 ·(simp only[↓cdL] at hc;try simp only[Ty.dflt,Int.toNat_natCast] at hc)
  (repeat (first|refine zs rfl ?_|refine zg rfl rfl rfl ?_|refine zd ?_|refine q8 ?_|refine q7 ?_))
  refine⟨.inl rfl,_,_,rfl,trivial,?_⟩
  unfold seE;rw[if_pos (by omega)]
 ·(simp only[↓cdL] at hc;try simp only[Ty.dflt,Int.toNat_natCast] at hc)
  (repeat (first|refine zs rfl ?_|refine zg rfl rfl rfl ?_|refine zd ?_|refine q8 ?_|refine q7 ?_))
  refine z5 rfl (fun hc2=>?_) (fun hc2=>?_)
  ·(simp only[↓cdL] at hc2;try simp only[Ty.dflt,Int.toNat_natCast] at hc2)
   (repeat (first|refine zs rfl ?_|refine zg rfl rfl rfl ?_|refine zd ?_|refine q8 ?_|refine q7 ?_))
   refine⟨.inl rfl,_,_,rfl,trivial,?_⟩
   unfold seE;rw[if_neg (by omega),if_pos (by omega)]
  ·(simp only[↓cdL] at hc2;try simp only[Ty.dflt,Int.toNat_natCast] at hc2)
   (repeat (first|refine zs rfl ?_|refine zg rfl rfl rfl ?_|refine zd ?_|refine q8 ?_|refine q7 ?_))
   refine JK.loop (fun i:Nat=>⟨[(1,.lf (.optr 0 [])),(3,vI (i:Int))],[(0,.cell seT (vS P l))],1⟩) (fun i=>i≤l.length∧∀ s∈l.take i,okPt P s) (fun i=>l.length-i) 0 (by simp) (by(exact z6 (by conv=>lhs;reduce))) fun i ⟨hi,hn⟩=>?_
   (repeat (first|refine zs rfl ?_|refine zg rfl rfl rfl ?_|refine zd ?_|refine q8 ?_|refine q7 ?_))
   refine z5 rfl (fun hd=>?_) (fun hd=>?_)
   ·(simp only[↓cdL] at hd;try simp only[Ty.dflt,Int.toNat_natCast] at hd)
    have hi':i<l.length:=by omega
    have e1:=fn21 P (l.getD i zP)
    have hmem:l.getD i zP∈l:=by rw[k0 l hi'];exact List.getElem_mem hi'
    have htk:l.take (i+1)=l.take i++[l.getD i zP]:=by rw[List.take_succ,List.getElem?_eq_getElem hi',k0 l hi'];rfl
    (repeat (first|refine zs rfl ?_|refine zg rfl rfl rfl ?_|refine zd ?_|refine q8 ?_|refine q7 ?_|refine zc rfl (e1) rfl rfl ?_|refine ze rfl (e1) rfl ?_|refine zk rfl rfl (fun _=>e1) rfl rfl ?_))
    refine z5 rfl (fun he=>?_) (fun he=>?_)
    ·(simp only[↓cdL] at he;try simp only[Ty.dflt,Int.toNat_natCast] at he)
     (repeat (first|refine zs rfl ?_|refine zg rfl rfl rfl ?_|refine zd ?_|refine q8 ?_|refine q7 ?_))
     refine⟨.inl rfl,_,_,rfl,trivial,?_⟩
     unfold seE
     rw[if_neg (by omega),if_neg (by omega),if_pos]
     rw[List.any_eq_true]
     exact⟨_,hmem,by simpa using he⟩
    ·(simp only[↓cdL] at he;try simp only[Ty.dflt,Int.toNat_natCast] at he)
     (repeat (first|refine zs rfl ?_|refine zg rfl rfl rfl ?_|refine zd ?_|refine q8 ?_|refine q7 ?_))
     refine⟨i+1,by(exact z6 (by conv=>lhs;reduce)),⟨by omega,fun s hs=>?_⟩,by omega⟩
     rw[htk] at hs
     rcases List.mem_append.1 hs with hs|hs
     ·exact hn s hs
     ·rw[List.mem_singleton.1 hs];exact he
   ·(simp only[↓cdL] at hd;try simp only[Ty.dflt,Int.toNat_natCast] at hd)
    (repeat (first|refine zs rfl ?_|refine zg rfl rfl rfl ?_|refine zd ?_|refine q8 ?_|refine q7 ?_))
    refine⟨.inl rfl,_,_,rfl,trivial,?_⟩
    obtain rfl:i=l.length:=by omega
    rw[List.take_length] at hn
    exact congrArg vI (q1h.2 ⟨by omega,by omega,by omega,hn⟩).symm
theorem z49{P:Int}{l:List Pt}(hl:okP P l){n:Nat}(hn:n<l.length):(0≤(l.getD n (0,0,())).1∧(l.getD n (0,0,())).1<P)∧1≤(l.getD n (0,0,())).2.1∧(l.getD n (0,0,())).2.1≤10000:=hl.get hn
theorem fn243(P:Int)(l:List Pt)(n:Nat)(hP:1≤P∧P≤1000)(hl:okP P l)(hn:n<l.length):Ox.Fn Tryz.prog 243 (.acons (vS P l) (.acons (vI n) .anil)) (·=vI (eN P l n)):=by
 obtain⟨h1,h2⟩:=z49 hl hn
 refine Ox.Fn.intro xok Tryz.func243 rfl Tryz.call243 (Nat.le_of_ble_eq_true rfl) (fun E M0 up=>?_)
 refine z8 ?_
 (repeat (first|refine zs rfl ?_|refine zg rfl rfl rfl ?_|refine zd ?_|refine q8 ?_|refine q7 ?_))
 refine⟨.inl rfl,_,_,rfl,trivial,?_⟩
 rfl
theorem fn202(P:Int)(l:List Pt)(n:Int):Ox.Fn Tryz.prog 202 (.acons (vS P l) (.acons (vI n) .anil)) (·=vB (decide (0≤n∧n<(l.length:Int)))):=by
 refine Ox.Fn.intro xok Tryz.func202 rfl Tryz.call202 (Nat.le_of_ble_eq_true rfl) (fun E M0 up=>?_)
 refine z8 ?_
 refine JK.lenOf 0 rfl fun hlen=>?_
 replace hlen:l.length≤9223372036854775807:=hlen.2.1.1
 (repeat (first|refine zs rfl ?_|refine zg rfl rfl rfl ?_|refine zd ?_|refine q8 ?_|refine q7 ?_))
 refine⟨.inl rfl,_,_,rfl,trivial,?_⟩
 by_cases h:0≤n<;>simp[h]
end Go.Proofs.YtjfafggkkjgpeaaGreatDoor
namespace Go.Proofs.YtjfafggkkjgpeaaGreatDoor
open Go Go.RowKit Ox Ox.Sh Ox.Se
abbrev arT:Ty:=.arr 1000 (.int .i64)
abbrev shT:Ty:=.cons seT (.cons arT (.cons (.int .i64) (.cons arT .nil)))
abbrev shW(P:Int)(l:List Pt)(ov:List Int)(pk:Int)(st:List Int):shT.den:=(mkS P l,ov,pk,st,())
abbrev vHo(P:Int)(l:List Pt)(ov:List Int)(pk:Int)(st:List Int):AV:=.val (.ptr shT) (some (shW P l ov pk st))
abbrev ZA:List Int:=arT.dflt
theorem ZA_eq:ZA=List.replicate 1000 0:=rfl
def tabL(f:Nat→Int):List Int:=(List.range 1000).map f
theorem q2v(f:Nat→Int):(tabL f).length=1000:=by simp[tabL]
theorem q39(f:Nat→Int){k:Nat}(h:k<1000):(tabL f).getD k 0=f k:=by
 unfold tabL
 rw[List.getD_eq_getElem?_getD,List.getElem?_map,List.getElem?_range h];rfl
theorem f6{f g:Nat→Int}(h:∀ k,k<1000→f k=g k):tabL f=tabL g:=by
 unfold tabL
 exact List.map_congr_left fun k hk=>h k (List.mem_range.1 hk)
theorem q2u(f:Nat→Int)(k:Nat)(x:Int):(tabL f).set k x=tabL fun v=>if v=k then x else f v:=by
 refine List.ext_getElem (by simp[tabL]) fun n h1 h2=>?_
 rw[List.getElem_set]
 simp only[tabL,List.getElem_map,List.getElem_range]
 by_cases e:n=k
 ·subst e;simp
 ·rw[if_neg e,if_neg (fun h=>e h.symm)]
theorem map_zero(N:Nat):(List.range N).map (fun _=>(0:Int))=List.replicate N 0:=by
 refine List.ext_getElem (by simp) fun n h1 h2=>?_
 simp
theorem q0q:tabL (fun _=>0)=ZA:=(map_zero 1000).trans ZA_eq.symm
theorem tab_ne{f:Nat→Int}:tabL f=ZA↔∀ k,k<1000→f k=0:=by
 constructor
 ·intro h k hk
  have h2:tabL f=tabL fun _=>0:=h.trans q0q.symm
  have:=congrArg (fun l=>l.getD k 0) h2
  simp only[q39 _ hk] at this
  exact this
 ·exact fun h=>(f6 h).trans q0q
theorem z9c{t:List Int}{i:Nat}(hi:i<t.length)(x:Int)(k:Nat):(t.set i x).getD k 0=if k=i then x else t.getD k 0:=by
 rw[List.getD_eq_getElem?_getD,List.getD_eq_getElem?_getD,List.getElem?_set]
 by_cases h:k=i
 ·subst h;rw[if_pos rfl,if_pos rfl,if_pos hi];rfl
 ·rw[if_neg (fun e=>h e.symm),if_neg h]
theorem tab_take(f:Nat→Int){P:Nat}(hP:P≤1000):(tabL f).take P=(List.range P).map f:=by
 unfold tabL
 rw[← List.map_take,List.take_range,Nat.min_eq_left hP]
section
variable {P:Int}{l:List Pt}
def cg(P:Int)(l:List Pt)(i:Nat)(v:Nat):Int:=if lO l i % P=0 then 0 else(if aT l i=v then 1 else 0)-if eN P l i=v then 1 else 0
def chg(P:Int)(l:List Pt)(k:Nat)(v:Nat):Int:=sm (fun i=>cg P l i v) (List.range k)
def o0(P:Int)(l:List Pt)(k:Nat):Int:=sm (pW P l (-1)) (List.range k)
theorem n5(g:Nat→Int)(k:Nat):sm g (List.range (k+1))=sm g (List.range k)+g k:=by
 rw[List.range_succ,z26];simp[sm]
theorem q9k(k v:Nat):chg P l (k+1) v=chg P l k v+cg P l k v:=n5 _ _
theorem z7w(k:Nat):o0 P l (k+1)=o0 P l k+pW P l (-1) k:=n5 _ _
theorem cg_bd(i v:Nat):-1≤cg P l i v∧cg P l i v≤1:=by
 unfold cg
 split
 ·omega
 ·split<;>split<;>omega
theorem j0b(v:Nat):∀ k:Nat,-(k:Int)≤chg P l k v∧chg P l k v≤k
 |0=>by have:chg P l 0 v=0:=rfl;omega
 |k+1=>by
  have h1:=j0b v k
  have h2:=cg_bd (P:=P) (l:=l) k v
  rw[q9k]
  push_cast
  omega
theorem LA1(hP:1≤P)(hl:okP P l){i:Nat}(hi:i<l.length):LA P l (-1) i=aT l i:=by
 have:=(hl.get hi).1
 unfold LA
 rw[show aT l i - -1-1=aT l i by omega,Int.emod_eq_of_lt (by omega) (by omega)]
theorem LE1(hP:1≤P)(i:Nat):Se.LE P l (-1) i=eN P l i:=by
 have:0≤eN P l i∧eN P l i<P:=p7 hP _
 unfold Se.LE
 rw[show eN P l i - -1-1=eN P l i by omega,Int.emod_eq_of_lt (by omega) (by omega)]
theorem pW1(hP:1≤P)(hl:okP P l){i:Nat}(hi:i<l.length):pW P l (-1) i=lO l i / P+if lO l i % P≠0∧eN P l i<aT l i then 1 else 0:=by
 have ha:=(hl.get hi).1
 have h1:=Int.emod_add_mul_ediv (lO l i) P
 have h2:=p7 hP (lO l i)
 unfold pW eN
 rw[LA1 hP hl hi]
 generalize aT l i=A at *
 generalize lO l i / P=q at *
 generalize lO l i % P=r at *
 have h3:A+lO l i=(A+r)+P*q:=by omega
 rw[h3,Int.add_mul_ediv_left _ _ (by omega:P≠0),Int.add_mul_emod_self_left]
 by_cases h:A+r<P
 ·rw[Int.ediv_eq_zero_of_lt (by omega) h,Int.emod_eq_of_lt (by omega) h,if_neg (by omega)];omega
 ·have e1:(A+r) % P=A+r-P:=by
   rw[← Int.sub_emod_right,Int.emod_eq_of_lt (by omega) (by omega)]
  have e2:(A+r) / P=1:=by
   have:A+r=(A+r-P)+P*1:=by omega
   rw[this,Int.add_mul_ediv_left _ _ (by omega:P≠0),Int.ediv_eq_zero_of_lt (by omega) (by omega)];rfl
  rw[e1,e2,if_pos (by omega)];omega
theorem same_end(hP:1≤P)(hl:okP P l){i:Nat}(hi:i<l.length)(h:lO l i % P=0):eN P l i=aT l i:=by
 have ha:=(hl.get hi).1
 unfold eN
 rw[Int.add_emod,h,Int.add_zero,Int.emod_emod_of_dvd _ (Int.dvd_refl P),Int.emod_eq_of_lt ha.1 ha.2]
theorem pW_bd(hP:1≤P)(hl:okP P l){i:Nat}(hi:i<l.length):0≤pW P l (-1) i∧pW P l (-1) i≤10001:=by
 rw[pW1 hP hl hi]
 have h1:=(hl.get hi).2
 have h2:0≤lO l i / P:=Int.ediv_nonneg (by omega) (by omega)
 have h3:lO l i / P≤lO l i:=Int.ediv_le_self _ (by omega)
 split<;>omega
theorem o0_bd(hP:1≤P)(hl:okP P l):∀ k:Nat,k≤l.length→0≤o0 P l k∧o0 P l k≤10001*k
 |0,_=>by have:o0 P l 0=0:=rfl;omega
 |k+1,h=>by
  have h1:=o0_bd hP hl k (by omega)
  have h2:=pW_bd hP hl (i:=k) (by omega)
  rw[z7w]
  push_cast
  omega
def nw(P:Int)(l:List Pt)(u:Nat):Int:=o0 P l l.length+sm (fun i=>(if aT l i<u then 1 else 0)-if eN P l i<u then 1 else 0) (List.range l.length)
theorem q2x{f g:Nat→Int}{o:List Nat}(h:∀ n∈o,f n=g n):sm f o=sm g o:=by
 unfold sm;rw[List.map_congr_left h]
theorem z7z(hP:1≤P)(hl:okP P l):nw P l 0=o0 P l l.length:=by
 unfold nw
 have e:sm (fun i=>(if aT l i<((0:Nat):Int) then(1:Int) else 0)-if eN P l i<((0:Nat):Int) then 1 else 0) (List.range l.length)=sm (fun _=>0) (List.range l.length):=q2x fun i hi=>by
  have h1:=(hl.get (List.mem_range.1 hi)).1
  have h2:0≤eN P l i∧eN P l i<P:=p7 hP _
  rw[if_neg (by omega),if_neg (by omega)];rfl
 rw[e]
 have:∀ o:List Nat,sm (fun _=>0) o=0:=fun o=>by induction o with
  |nil=>rfl
  |cons a o ih=>rw[y5,ih];rfl
 rw[this];omega
theorem nw_succ(hP:1≤P)(hl:okP P l)(u:Nat):nw P l (u+1)=nw P l u+chg P l l.length u:=by
 unfold nw chg
 rw[Int.add_assoc,← q91]
 congr 1
 refine q2x fun i hi=>?_
 unfold cg
 by_cases hr:lO l i % P=0
 ·rw[if_pos hr,same_end hP hl (List.mem_range.1 hi) hr]
  split<;>split<;>omega
 ·rw[if_neg hr]
  push_cast
  split<;>split<;>split<;>split<;>(try split)<;>(try split)<;>omega
theorem nw_ov(hP:1≤P)(hl:okP P l){u:Nat}(hu:(u:Int)<P):nw P l (u+1)=ov P l (u:Int):=by
 rw[z3k (c:=-1) hP,show(u:Int) - -1-1=u by omega,Int.emod_eq_of_lt (by omega) hu,← j0f,← j0f]
 unfold nw o0
 rw[p6]
 have e1:sm (fun i=>if aT l i<((u+1:Nat):Int) then(1:Int) else 0) (List.range l.length)=sm (fun n=>if LA P l (-1) n≤(u:Int) then 1 else 0) (List.range l.length):=q2x fun i hi=>by
  rw[LA1 hP hl (List.mem_range.1 hi)]
  push_cast
  split<;>split<;>omega
 have e2:sm (fun i=>if eN P l i<((u+1:Nat):Int) then(1:Int) else 0) (List.range l.length)=sm (fun n=>if Se.LE P l (-1) n≤(u:Int) then 1 else 0) (List.range l.length):=q2x fun i hi=>by
  rw[LE1 hP]
  push_cast
  split<;>split<;>omega
 rw[e1,e2]
 omega
theorem ov_bd(hP:1≤P)(hl:okP P l)(u:Int):0≤ov P l u∧ov P l u≤10001*l.length:=by
 have key:∀ k:Nat,k≤l.length→0≤sm (ov1 P l u) (List.range k)∧sm (ov1 P l u) (List.range k)≤10001*k:=by
  intro k
  induction k with
  |zero=>intro _;have:sm (ov1 P l u) (List.range 0)=0:=rfl;omega
  |succ k ih=>
   intro h
   have h0:=ih (by omega)
   have h1:=(hl.get (n:=k) (by omega)).2
   have h2:0≤lO l k / P:=Int.ediv_nonneg (by omega) (by omega)
   have h3:lO l k / P≤lO l k:=Int.ediv_le_self _ (by omega)
   rw[n5]
   unfold ov1 at h0 ⊢
   push_cast
   split<;>omega
 exact key l.length (Nat.le_refl _)
theorem nw_bd(hP:1≤P)(hl:okP P l){u:Nat}(hu:(u:Int)≤P):0≤nw P l u∧nw P l u≤10001*l.length:=by
 cases u with
 |zero=>
  rw[z7z hP hl]
  exact o0_bd hP hl _ (Nat.le_refl _)
 |succ u=>
  rw[nw_ov hP hl (by omega)]
  exact ov_bd hP hl _
def ovS(P:Int)(l:List Pt)(u:Nat):List Int:=tabL fun v=>if v<u then ov P l (v:Int) else if v=0 then o0 P l l.length else 0
def ovA(P:Int)(l:List Pt):List Int:=tabL fun v=>if (v:Int)<P then ov P l (v:Int) else 0
theorem ovS_zero:ovS P l 0=ZA.set 0 (o0 P l l.length):=by
 have h:(tabL fun _=>0).set 0 (o0 P l l.length)=ZA.set 0 (o0 P l l.length):=congrArg (fun L=>List.set L 0 (o0 P l l.length)) q0q
 refine Eq.trans ?_ h
 rw[q2u]
 exact f6 fun k _=>by simp
theorem ovS_succ(hP:1≤P)(hl:okP P l){u:Nat}(hu:(u:Int)<P):ovS P l (u+1)=(ovS P l u).set u (nw P l (u+1)):=by
 unfold ovS
 rw[q2u,nw_ov hP hl hu]
 refine f6 fun k _=>?_
 by_cases e:k=u
 ·subst e;rw[if_pos (by omega),if_pos rfl]
 ·rw[if_neg e]
  by_cases h:k<u
  ·rw[if_pos (by omega),if_pos h]
  ·rw[if_neg (by omega),if_neg h]
theorem ovS_end(hP:1≤P):ovS P l P.toNat=ovA P l:=f6 fun k _=>by
 by_cases h:(k:Int)<P
 ·rw[if_pos (by omega),if_pos h]
 ·rw[if_neg (by omega),if_neg h,if_neg (by omega)]
def chgL(P:Int)(l:List Pt)(k:Nat):List Int:=tabL (chg P l k)
theorem j0c:chgL P l 0=ZA:=(f6 fun k _=>rfl).trans q0q
theorem j0d(hP:1≤P)(hP2:P≤1000)(hl:okP P l){i:Nat}(hi:i<l.length)(hr:lO l i % P≠0){X:List Int}(hX:X=(chgL P l i).set (aT l i).toNat (chg P l i (aT l i).toNat+1)) :
  X.set (eN P l i).toNat (X.getD (eN P l i).toNat 0-1)=chgL P l (i+1):=by
 have ha:=(hl.get hi).1
 have he:0≤eN P l i∧eN P l i<P:=p7 hP _
 rw[hX]
 unfold chgL
 rw[q2u,q39 _ (by omega),q2u]
 refine f6 fun k hk=>?_
 rw[q9k]
 unfold cg
 rw[if_neg hr]
 by_cases h1:k=(eN P l i).toNat
 ·rw[if_pos h1]
  by_cases h2:(eN P l i).toNat=(aT l i).toNat
  ·rw[if_pos h2,if_pos (by omega),if_pos (by omega),h1,h2];omega
  ·rw[if_neg h2,if_neg (by omega),if_pos (by omega),h1];omega
 ·rw[if_neg h1]
  by_cases h2:k=(aT l i).toNat
  ·rw[if_pos h2,if_pos (by omega),if_neg (by omega),h2];omega
  ·rw[if_neg h2,if_neg (by omega),if_neg (by omega)];omega
theorem j0e{i:Nat}(hr:lO l i % P=0):chgL P l (i+1)=chgL P l i:=f6 fun k _=>by
 rw[q9k];unfold cg;rw[if_pos hr];omega
theorem z4a:∀ (L:List Int) (a:Int),a≤L.foldl Max.max a∧(∀ x∈L,x≤L.foldl Max.max a)∧(L.foldl Max.max a=a∨L.foldl Max.max a∈L)
 |[],a=>⟨Int.le_refl _,(fun x h=>by cases h),Or.inl rfl⟩
 |y::L,a=>by
  rw[List.foldl_cons]
  obtain⟨h1,h2,h3⟩:=z4a L (Max.max a y)
  generalize L.foldl Max.max (Max.max a y)=m at *
  refine⟨by omega,fun x hx=>?_,?_⟩
  ·rcases List.mem_cons.1 hx with rfl|hx
   ·omega
   ·exact h2 x hx
  ·rcases h3 with h3|h3
   ·rcases Int.le_total a y with h|h
    ·exact Or.inr (List.mem_cons.2 (Or.inl (by omega)))
    ·exact Or.inl (by omega)
   ·exact Or.inr (List.mem_cons_of_mem _ h3)
theorem z8b{xs:List Int}(h:xs≠[]):maxL xs∈xs∧∀ x∈xs,x≤maxL xs:=by
 cases xs with
 |nil=>exact absurd rfl h
 |cons a r=>
  obtain⟨h1,h2,h3⟩:=z4a r a
  refine⟨?_,fun x hx=>?_⟩
  ·rcases h3 with h3|h3
   ·exact List.mem_cons.2 (Or.inl h3)
   ·exact List.mem_cons_of_mem _ h3
  ·rcases List.mem_cons.1 hx with rfl|hx
   ·exact h1
   ·exact h2 x hx
theorem peak_eq(hP:1≤P)(hP2:P≤1000):maxL ((ovA P l).take P.toNat)=pkV P l:=by
 unfold ovA
 rw[tab_take _ (by omega)]
 have hne:(List.range P.toNat).map (fun v:Nat=>if (v:Int)<P then ov P l (v:Int) else 0)≠[]:=by
  intro h
  have:=congrArg List.length h
  simp at this
  omega
 obtain⟨h1,h2⟩:=z8b hne
 generalize maxL ((List.range P.toNat).map (fun v:Nat=>if (v:Int)<P then ov P l (v:Int) else 0))=m at h1 h2 ⊢
 obtain⟨v,hv,rfl⟩:=List.mem_map.1 h1
 have hv':=List.mem_range.1 hv
 rw[if_pos (by omega)] at h2 ⊢
 have hf:=q22 (l:=l) hP
 have h3:=h2 (ov P l (pkA P l:Int)) (List.mem_map.2 ⟨pkA P l,List.mem_range.2 (by have:=hf.1;omega),by rw[if_pos hf.1.2]⟩)
 have h4:=hf.2 v (by omega) (by omega)
 unfold pkV
 omega
theorem z7o(hP:1≤P)(hP2:P≤1000)(h:ovA P l=ZA):pkV P l=0:=by
 have hf:=(q22 (l:=l) hP).1
 have:=tab_ne.1 h (pkA P l) (by omega)
 rwa[if_pos hf.2] at this
def stS(P:Int)(l:List Pt)(u:Nat):List Int:=tabL fun v=>if v<u then(fcn P l v:Int) else 0
def stT(P:Int)(l:List Pt)(u:Nat):List Int:=tabL fun v=>if (v:Int)<P then(if v<u then(stN P l v:Int) else fcn P l v) else 0
def stA(P:Int)(l:List Pt):List Int:=tabL fun v=>if (v:Int)<P then(stN P l v:Int) else 0
theorem stS_zero:stS P l 0=ZA:=(f6 fun k _=>by simp).trans q0q
theorem stS_succ(u:Nat):stS P l (u+1)=(stS P l u).set u (fcn P l u:Int):=by
 unfold stS
 rw[q2u]
 refine f6 fun k _=>?_
 by_cases e:k=u
 ·subst e;rw[if_pos (by omega),if_pos rfl]
 ·rw[if_neg e]
  by_cases h:k<u
  ·rw[if_pos (by omega),if_pos h]
  ·rw[if_neg (by omega),if_neg h]
theorem stT_zero(hP:1≤P):stS P l P.toNat=stT P l 0:=f6 fun k _=>by
 by_cases h:(k:Int)<P
 ·rw[if_pos (by omega),if_pos h,if_neg (by omega)]
 ·rw[if_neg (by omega),if_neg h]
theorem stT_get{u:Nat}(hu:(u:Int)<P)(hP2:P≤1000):(stT P l u).getD u 0=fcn P l u:=by
 unfold stT
 rw[q39 _ (by omega),if_pos hu,if_neg (by omega)]
theorem stT_hit{u:Nat}(hu:(u:Int)<P)(h:fcn P l u=fcn P l P.toNat):stT P l (u+1)=(stT P l u).set u 0:=by
 unfold stT
 rw[q2u]
 refine f6 fun k _=>?_
 by_cases e:k=u
 ·subst e;rw[if_pos hu,if_pos (by omega),if_pos rfl];unfold stN;rw[if_pos h];rfl
 ·rw[if_neg e]
  by_cases h:(k:Int)<P
  ·rw[if_pos h,if_pos h]
   by_cases h2:k<u
   ·rw[if_pos (by omega),if_pos h2]
   ·rw[if_neg (by omega),if_neg h2]
  ·rw[if_neg h,if_neg h]
theorem stT_miss{u:Nat}(h:fcn P l u≠fcn P l P.toNat):stT P l (u+1)=stT P l u:=f6 fun k _=>by
 by_cases h1:(k:Int)<P
 ·rw[if_pos h1,if_pos h1]
  by_cases e:k=u
  ·subst e;rw[if_pos (by omega),if_neg (by omega)];unfold stN;rw[if_neg h]
  ·by_cases h2:k<u
   ·rw[if_pos (by omega),if_pos h2]
   ·rw[if_neg (by omega),if_neg h2]
 ·rw[if_neg h1,if_neg h1]
theorem stT_end(hP:1≤P):stT P l P.toNat=stA P l:=f6 fun k _=>by
 by_cases h:(k:Int)<P
 ·rw[if_pos h,if_pos h,if_pos (by omega)]
 ·rw[if_neg h,if_neg h]
theorem z9l(u:Nat):fcn P l u≤u:=by
 have:=List.countP_le_length (p:=flB P l) (l:=List.range u)
 rw[List.length_range] at this
 exact this
theorem pkV_def:ov P l (pkA P l:Int)=pkV P l:=rfl
theorem o0_zero:o0 P l 0=0:=rfl
theorem z4j(k:Nat){v:Nat}(h:v<1000):(chgL P l k).getD v 0=chg P l k v:=q39 _ h
theorem z4i(k:Nat):(chgL P l k).length=1000:=q2v _
theorem ovS_len(u:Nat):(ovS P l u).length=1000:=q2v _
theorem q8n:(ovA P l).length=1000:=q2v _
theorem z12{v:Nat}(h:v<1000):(ovA P l).getD v 0=if (v:Int)<P then ov P l (v:Int) else 0:=q39 _ h
theorem stS_len(u:Nat):(stS P l u).length=1000:=q2v _
theorem stT_len(u:Nat):(stT P l u).length=1000:=q2v _
theorem stA_len:(stA P l).length=1000:=q2v _
theorem z6l{v:Nat}(h:v<1000):(stA P l).getD v 0=if (v:Int)<P then(stN P l v:Int) else 0:=q39 _ h
abbrev shV(P:Int)(l:List Pt):shT.den:=shW P l (ovA P l) (pkV P l) (stA P l)
abbrev vH(P:Int)(l:List Pt):AV:=.val (.ptr shT) (some (shV P l))
end
end Go.Proofs.YtjfafggkkjgpeaaGreatDoor
namespace Go.Proofs.YtjfafggkkjgpeaaGreatDoor
open Go Go.RowKit Ox Ox.Sh Ox.Se
attribute [local irreducible] JC JL JK JW
attribute [local irreducible] ovS ovA chgL stS stT stA tabL nw o0 chg
theorem eqA:EqT Tryz.prog arT 72:=.of (by decide +kernel)
theorem fn60(P:Int)(l:List Pt)(ov:List Int)(pk:Int)(st:List Int)(n:Nat)(hP:1≤P∧P≤1000)(hl:okP P l)(hn:n<l.length):Ox.Fn Tryz.prog 60 (.acons (vHo P l ov pk st) (.acons (vI n) .anil)) (·=vI (eN P l n)):=by
 obtain⟨h1,h2⟩:=z49 hl hn
 refine Ox.Fn.intro xok Tryz.func60 rfl Tryz.call60 (Nat.le_of_ble_eq_true rfl) (fun E M0 up=>?_)
 refine z8 ?_
 (repeat (first|refine zs rfl ?_|refine zg rfl rfl rfl ?_|refine zd ?_|refine q8 ?_|refine q7 ?_|refine zne eqA rfl rfl rfl ?_))
 refine⟨.inl rfl,_,_,rfl,trivial,?_⟩
 rfl
set_option maxHeartbeats 4000000 in
theorem fn71(P:Int)(l:List Pt)(hz:seE P l=0):Ox.Fn Tryz.prog 71 (.acons (vS P l) .anil) (·=vH P l):=by
 obtain⟨hP,h1,h8,hl⟩:=q1h.1 hz
 refine Ox.Fn.intro xok Tryz.func71 rfl Tryz.call71 (Nat.le_of_ble_eq_true rfl) (fun E M0 up=>?_)
 refine z8 ?_
 (repeat (first|refine zs rfl ?_|refine zg rfl rfl rfl ?_|refine zd ?_|refine q8 ?_|refine q7 ?_|refine zne eqA rfl rfl rfl ?_))
 refine JK.loop (fun i:Nat=>⟨[(1,.lf (.optr 0 [])),(3,.lf (.optr 1 [])),(4,.lf (.optr 2 [])),(5,.lf (.optr 3 [])),(19,vD l),(20,vI l.length),(21,vI (i:Int))],[(0,.cell seT (vS P l)),(1,.cell shT (.val shT (shW P l (ZA.set 0 (o0 P l i)) 0 ZA))),(2,.cell arT (.val arT ZA)),(3,.cell arT (.val arT (chgL P l i)))],4⟩)
  (fun i=>i≤l.length) (fun i=>l.length-i) 0 (Nat.zero_le _) ?_ fun i hi=>?_
 ·have e1:ZA.set 0 (o0 P l 0)=ZA:=(congrArg (fun z=>ZA.set 0 z) o0_zero).trans<|(congrArg (fun L=>List.set L 0 (0:Int)) q0q.symm).trans ((q2u _ _ _).trans ((f6 fun k _=>by simp).trans q0q))
  rw[e1,j0c]
  (exact z6 (by conv=>lhs;reduce))
 ·have hob:=o0_bd hP.1 hl i hi
  have hcb:=fun v=>j0b (P:=P) (l:=l) v i
  have hg:∀ v:Nat,v<1000→(chgL P l i).getD v 0=chg P l i v:=fun v hv=>z4j i hv
  have hcl:(chgL P l i).length=1000:=z4i i
  have hz0:(ZA.set 0 (o0 P l i)).getD 0 0=o0 P l i:=rfl
  have hz0b:(ZA.set 0 (o0 P l i)).getD (Int.toNat 0) 0=o0 P l i:=rfl
  have hstep:=fun(h:i<l.length) (hr:lO l i % P≠0)=>j0d (X:=(chgL P l i).set (aT l i).toNat (chg P l i (aT l i).toNat+1)) hP.1 hP.2 hl h hr rfl
  have hsame:=fun(hr:lO l i % P=0)=>j0e (P:=P) (l:=l) (i:=i) hr
  have hos:=fun(h:i<l.length)=>(z7w (P:=P) (l:=l) i).trans (congrArg (fun z=>o0 P l i+z) (pW1 hP.1 hl h))
  (repeat (first|refine zs rfl ?_|refine zg rfl rfl rfl ?_|refine zd ?_|refine q8 ?_|refine q7 ?_|refine zne eqA rfl rfl rfl ?_))
  refine z5 rfl (fun hc=>?_) (fun hc=>?_)
  ·(simp only[↓cdL] at hc;try simp only[Ty.dflt,Int.toNat_natCast] at hc)
   have hi':i<l.length:=by omega
   obtain⟨b1,b2⟩:=z49 hl hi'
   have c91:=fn60 P l (ZA.set 0 (o0 P l i)) 0 ZA i hP hl hi'
   have hre:eN P l i=((l.getD i (0,0,())).1+(l.getD i (0,0,())).2.1) % P:=rfl
   have heb:0≤eN P l i∧eN P l i<P:=p7 hP.1 _
   have hzs:∀ y,(ZA.set 0 (o0 P l i)).set 0 y=ZA.set 0 y:=fun y=>List.set_set ..
   have hzl:(ZA.set 0 (o0 P l i)).length=1000:=by rw[List.length_set];exact(congrArg List.length q0q.symm).trans (q2v _)
   generalize ZA.set 0 (o0 P l i)=X at c91 hz0 hz0b hzs hzl ⊢
   generalize chgL P l i=C at hg hcl hstep hsame ⊢
   replace hos:=hos hi'
   replace hstep:=hstep hi'
   have ea:aT l i=(l.getD i (0,0,())).1:=rfl
   have eb:lO l i=(l.getD i (0,0,())).2.1:=rfl
   rw[ea,eb] at hstep hos
   rw[eb] at hsame
   (repeat (first|refine zs rfl ?_|refine zg rfl rfl rfl ?_|refine q8 ?_|refine q7 ?_|refine zne eqA rfl rfl rfl ?_|refine zc rfl (c91) rfl rfl ?_|refine ze rfl (c91) rfl ?_|refine zk rfl rfl (fun _=>c91) rfl rfl ?_))
   refine q0o (s':=⟨[(1,.lf (.optr 0 [])),(3,.lf (.optr 1 [])),(4,.lf (.optr 2 [])),(5,.lf (.optr 3 [])),(7,.lf (.optr 4 [])),(8,vI (eN P l i)),(19,vD l),(20,vI l.length),(21,vI (i:Int))],[(0,.cell seT (vS P l)),(1,.cell shT (.val shT (shW P l X 0 ZA))),(2,.cell arT (.val arT ZA)),(3,.cell arT (.val arT C)),(4,.cell ptT (vP (l.getD i (0,0,()))))],5⟩) (by(exact z6 (by conv=>lhs;reduce))) ?_
   generalize l.getD i (0,0,())=s at b1 b2 hre hstep hsame hos ⊢
   obtain⟨a,b,_⟩:=s
   dsimp only at b1 b2 hre hstep hsame hos ⊢
   have hbp:0≤b / P:=Int.ediv_nonneg (by omega) (by omega)
   have hbp2:b / P≤b:=Int.ediv_le_self _ (by omega)
   refine q7e xk (Tryz.f71.body.getD .skip) ⟨[(1,.lf (.optr 0 [])),(3,.lf (.optr 1 [])),(4,.lf (.optr 2 [])),(5,.lf (.optr 3 [])),(7,.lf (.optr 4 [])),(8,vI (eN P l i)),(19,vD l),(20,vI l.length),(21,vI (i:Int))],[(0,.cell seT (vS P l)),(1,.cell shT (.val shT (shW P l (X.set 0 (X.getD 0 0+b / P)) 0 ZA))),(2,.cell arT (.val arT ZA)),(3,.cell arT (.val arT C)),(4,.cell ptT (vP (a,b,())))],5⟩ rfl 15 rfl ?_ ?_
   ·(refine j0 0 xk rfl rfl ?_;refine j0 1 xk rfl rfl ?_;refine j0 2 xk rfl rfl ?_;refine j0 3 xk rfl rfl ?_;refine j0 5 xk rfl rfl ?_;refine j0 7 xk rfl rfl ?_;refine j0 11 xk rfl rfl ?_;refine j0 12 xk rfl rfl ?_;refine k7 4 xk rfl rfl ?_;refine k7 6 xk rfl rfl ?_;refine k7 8 xk rfl rfl ?_;refine k7 9 xk rfl rfl ?_;refine k7 10 xk rfl rfl ?_;refine k7 13 xk rfl rfl ?_;refine k8 14 [] xk ?_ ?_;(focus (repeat (first|exact StF.nil|refine x4 rfl rfl rfl ?_)));refine(BrF.one rfl rfl ?_ BrF.nil);(· (first|refine r7 xk rfl rfl ?_|refine o5 xk rfl rfl ?_|refine JL.M0 xk rfl ?_|refine p8 eqA rfl rfl rfl ?_);refine y6 ?_;refine q0p xk StF.nil ?_;((exact z6 (by conv=>lhs;reduce)))))
   ·rw[hzs,hz0]
    (repeat (first|refine zs rfl ?_|refine zg rfl rfl rfl ?_|refine zd ?_|refine q8 ?_|refine q7 ?_|refine zne eqA rfl rfl rfl ?_))
    refine z5 rfl (fun hr=>?_) (fun hr=>?_)
    ·(simp only[↓cdL] at hr;try simp only[Ty.dflt,Int.toNat_natCast] at hr)
     (repeat (first|refine zs rfl ?_|refine zg rfl rfl rfl ?_|refine zd ?_|refine q8 ?_|refine q7 ?_|refine zne eqA rfl rfl rfl ?_))
     refine⟨i+1,?_,by omega,by omega⟩
     rw[hsame hr,hos,if_neg (by omega),Int.add_zero]
     (exact z6 (by conv=>lhs;reduce))
    ·(simp only[↓cdL] at hr;try simp only[Ty.dflt,Int.toNat_natCast] at hr)
     replace hstep:=hstep hr
     rw[← hg _ (by omega)] at hstep
     have hga:=hg a.toNat (by omega)
     have hba:=hcb a.toNat
     have hbe:=hcb (eN P l i).toNat
     have hge:((C.set a.toNat (C.getD a.toNat 0+1)).getD (eN P l i).toNat 0)=if (eN P l i).toNat=a.toNat then chg P l i a.toNat+1 else chg P l i (eN P l i).toNat:=by
      rw[z9c (by omega),hga,hg _ (by omega)]
     have hle:(C.set a.toNat (C.getD a.toNat 0+1)).length=1000:=by rw[List.length_set];exact hcl
     have hgb:-9≤(C.set a.toNat (C.getD a.toNat 0+1)).getD (eN P l i).toNat 0∧(C.set a.toNat (C.getD a.toNat 0+1)).getD (eN P l i).toNat 0≤9:=by
      rw[hge];split<;>omega
     clear hge
     generalize eN P l i=e at *
     (repeat (first|refine zs rfl ?_|refine zg rfl rfl rfl ?_|refine zd ?_|refine q8 ?_|refine q7 ?_|refine zne eqA rfl rfl rfl ?_))
     refine z5 rfl (fun he=>?_) (fun he=>?_)
     ·(simp only[↓cdL] at he;try simp only[Ty.dflt,Int.toNat_natCast] at he)
      rw[if_pos ⟨hr,he⟩] at hos
      refine q0o (s':=⟨[(1,.lf (.optr 0 [])),(3,.lf (.optr 1 [])),(4,.lf (.optr 2 [])),(5,.lf (.optr 3 [])),(19,vD l),(20,vI l.length),(21,vI (i:Int))],[(0,.cell seT (vS P l)),(1,.cell shT (.val shT (shW P l (ZA.set 0 (o0 P l i+b / P)) 0 ZA))),(2,.cell arT (.val arT ZA)),(3,.cell arT (.val arT ((C.set a.toNat (C.getD a.toNat 0+1)).set e.toNat ((C.set a.toNat (C.getD a.toNat 0+1)).getD e.toNat 0-1))))],4⟩) (by(exact z6 (by conv=>lhs;reduce))) ?_
      rw[hstep]
      have hy0:(ZA.set 0 (o0 P l i+b / P)).getD (Int.toNat 0) 0=o0 P l i+b / P:=rfl
      have hys:∀ y,(ZA.set 0 (o0 P l i+b / P)).set 0 y=ZA.set 0 y:=fun y=>List.set_set ..
      have hyl:(ZA.set 0 (o0 P l i+b / P)).length=1000:=by rw[← hzs];rw[List.length_set];exact hzl
      generalize ZA.set 0 (o0 P l i+b / P)=Y at hy0 hys hyl ⊢
      refine q9v xk (Tryz.f71.body.getD .skip) ⟨[(1,.lf (.optr 0 [])),(3,.lf (.optr 1 [])),(4,.lf (.optr 2 [])),(5,.lf (.optr 3 [])),(19,vD l),(20,vI l.length),(21,vI (i:Int))],[(0,.cell seT (vS P l)),(1,.cell shT (.val shT (shW P l (Y.set 0 (Y.getD 0 0+1)) 0 ZA))),(2,.cell arT (.val arT ZA)),(3,.cell arT (.val arT (chgL P l (i+1))))],4⟩ rfl 10 rfl ?_ ?_
      ·(refine j0 0 xk rfl rfl ?_;refine j0 1 xk rfl rfl ?_;refine j0 2 xk rfl rfl ?_;refine j0 3 xk rfl rfl ?_;refine j0 6 xk rfl rfl ?_;refine j0 7 xk rfl rfl ?_;refine k7 4 xk rfl rfl ?_;refine k7 5 xk rfl rfl ?_;refine k7 8 xk rfl rfl ?_;refine k8 9 [] xk ?_ ?_;(focus (repeat (first|exact StF.nil|refine x4 rfl rfl rfl ?_)));refine(BrF.one rfl rfl ?_ BrF.nil);(· (first|refine r7 xk rfl rfl ?_|refine o5 xk rfl rfl ?_|refine JL.M0 xk rfl ?_|refine p8 eqA rfl rfl rfl ?_);refine y6 ?_;refine q0p xk StF.nil ?_;((exact z6 (by conv=>lhs;reduce)))))
      ·have e2:Y.getD 0 0=o0 P l i+b / P:=hy0
       rw[hys,e2,Int.add_assoc,← hos]
       (repeat (first|refine zs rfl ?_|refine zg rfl rfl rfl ?_|refine zd ?_|refine q8 ?_|refine q7 ?_|refine zne eqA rfl rfl rfl ?_))
       exact⟨i+1,by(exact z6 (by conv=>lhs;reduce)),by omega,by omega⟩
     ·(simp only[↓cdL] at he;try simp only[Ty.dflt,Int.toNat_natCast] at he)
      rw[if_neg (fun h=>he h.2),Int.add_zero] at hos
      refine q0o (s':=⟨[(1,.lf (.optr 0 [])),(3,.lf (.optr 1 [])),(4,.lf (.optr 2 [])),(5,.lf (.optr 3 [])),(19,vD l),(20,vI l.length),(21,vI (i:Int))],[(0,.cell seT (vS P l)),(1,.cell shT (.val shT (shW P l (ZA.set 0 (o0 P l i+b / P)) 0 ZA))),(2,.cell arT (.val arT ZA)),(3,.cell arT (.val arT ((C.set a.toNat (C.getD a.toNat 0+1)).set e.toNat ((C.set a.toNat (C.getD a.toNat 0+1)).getD e.toNat 0-1))))],4⟩) (by(exact z6 (by conv=>lhs;reduce))) ?_
      rw[hstep,← hos]
      (repeat (first|refine zs rfl ?_|refine zg rfl rfl rfl ?_|refine zd ?_|refine q8 ?_|refine q7 ?_|refine zne eqA rfl rfl rfl ?_))
      exact⟨i+1,by(exact z6 (by conv=>lhs;reduce)),by omega,by omega⟩
  ·(simp only[↓cdL] at hc;try simp only[Ty.dflt,Int.toNat_natCast] at hc)
   have hil:i=l.length:=by omega
   clear hg hcl hz0 hz0b hstep hsame hos hcb hc
   rw[hil]
   have hz1:ZA.set 0 (o0 P l l.length)=ovS P l 0:=ovS_zero.symm
   have hz2:(ZA.set 0 (o0 P l l.length)).getD 0 0=nw P l 0:=(z7z hP.1 hl).symm
   rw[hz1] at hz2 ⊢
   (repeat (first|refine zs rfl ?_|refine zg rfl rfl rfl ?_|refine zd ?_|refine q8 ?_|refine q7 ?_|refine zne eqA rfl rfl rfl ?_))
   refine JK.loop (fun u:Nat=>⟨[(1,.lf (.optr 0 [])),(3,.lf (.optr 1 [])),(4,.lf (.optr 2 [])),(5,.lf (.optr 3 [])),(9,vI (nw P l u)),(80,vI P),(81,vI (u:Int))],[(0,.cell seT (vS P l)),(1,.cell shT (.val shT (shW P l (ovS P l u) 0 ZA))),(2,.cell arT (.val arT ZA)),(3,.cell arT (.val arT (chgL P l l.length)))],4⟩)
    (fun u=>(u:Int)≤P) (fun u=>P.toNat-u) 0 (by omega) ?_ fun u hu=>?_
   ·rw[← hz2];(exact z6 (by conv=>lhs;reduce))
   ·have hb1:=nw_bd hP.1 hl hu
    have hb2:=j0b (P:=P) (l:=l) u l.length
    have hg:u<1000→(chgL P l l.length).getD u 0=chg P l l.length u:=fun hv=>z4j _ hv
    have hcl:(chgL P l l.length).length=1000:=z4i _
    have hol:(ovS P l u).length=1000:=ovS_len u
    have hns:=nw_succ hP.1 hl u
    have hos:=fun h=>ovS_succ hP.1 hl (u:=u) h
    (repeat (first|refine zs rfl ?_|refine zg rfl rfl rfl ?_|refine zd ?_|refine q8 ?_|refine q7 ?_|refine zne eqA rfl rfl rfl ?_))
    refine z5 rfl (fun hd=>?_) (fun hd=>?_)
    ·(simp only[↓cdL] at hd;try simp only[Ty.dflt,Int.toNat_natCast] at hd)
     have hgu:=hg (by omega)
     replace hos:=hos hd
     rw[hns,← hgu] at hos
     rw[← hgu] at hns hb2
     (repeat (first|refine zs rfl ?_|refine zg rfl rfl rfl ?_|refine zd ?_|refine q8 ?_|refine q7 ?_|refine zne eqA rfl rfl rfl ?_))
     refine⟨u+1,?_,by push_cast;omega,by omega⟩
     rw[hos,hns]
     (exact z6 (by conv=>lhs;reduce))
    ·(simp only[↓cdL] at hd;try simp only[Ty.dflt,Int.toNat_natCast] at hd)
     have hup:u=P.toNat:=by omega
     rw[hup,ovS_end hP.1]
     clear hg hcl hns hos hb1 hb2 hol
     refine q0o (s':=⟨[(1,.lf (.optr 0 [])),(3,.lf (.optr 1 [])),(4,.lf (.optr 2 [])),(80,vI P)],[(0,.cell seT (vS P l)),(1,.cell shT (.val shT (shW P l (ovA P l) 0 ZA))),(2,.cell arT (.val arT ZA))],3⟩) (by(exact z6 (by conv=>lhs;reduce))) ?_
     (repeat (first|refine zu rfl ?_|refine zg rfl rfl rfl ?_|refine zd ?_|refine q8 ?_|refine q7 ?_|refine zne eqA rfl rfl rfl ?_))
     refine JK.cut (σ:=Unit) (fun _=>⟨[(1,.lf (.optr 0 [])),(3,.lf (.optr 1 []))],[(0,.cell seT (vS P l)),(1,.cell shT (.val shT (shW P l (ovA P l) (pkV P l) ZA)))],2⟩) (fun _=>True) ?_ (fun _ _=>?_)
     ·have c106:=fn137 ((ovA P l).take P.toNat) (by rw[List.length_take,q8n];omega)
      rw[peak_eq hP.1 hP.2] at c106
      (repeat (first|refine zs rfl ?_|refine zg rfl rfl rfl ?_|refine zd ?_|refine q8 ?_|refine q7 ?_|refine zne eqA rfl rfl rfl ?_))
      refine z5 rfl (fun hf=>?_) (fun hf=>?_)
      ·refine q9u xk (Tryz.f71.body.getD .skip) rfl 11 rfl ?_
       (refine j0 0 xk rfl rfl ?_;refine j0 1 xk rfl rfl ?_;refine j0 2 xk rfl rfl ?_;refine j0 3 xk rfl rfl ?_;refine j0 4 xk rfl rfl ?_;refine k7 5 xk rfl rfl ?_;refine k7 6 xk rfl rfl ?_;refine k8 7 [] xk ?_ ?_;(focus (repeat (first|exact StF.nil|refine x4 rfl rfl rfl ?_)));refine(BrF.one rfl rfl ?_ BrF.nil);(· (first|refine r7 xk rfl rfl ?_|refine o5 xk rfl rfl ?_|refine JL.M0 xk rfl ?_|refine p8 eqA rfl rfl rfl ?_|refine q3c rfl (c106) rfl trivial rfl ?_|refine q3d rfl (c106) rfl (fun r hr=>?_);subst hr);refine y6 ?_;refine k7 8 xk rfl rfl ?_;refine k7 9 xk rfl rfl ?_;refine k8 10 [] xk ?_ ?_;(focus (repeat (first|exact StF.nil|refine x4 rfl rfl rfl ?_)));refine(BrF.one rfl rfl ?_ BrF.nil);(· (first|refine r7 xk rfl rfl ?_|refine o5 xk rfl rfl ?_|refine JL.M0 xk rfl ?_|refine p8 eqA rfl rfl rfl ?_|refine q3c rfl (c106) rfl trivial rfl ?_|refine q3d rfl (c106) rfl (fun r hr=>?_);subst hr);refine y6 ?_;refine q0p xk ?_ ?_;(focus (repeat (first|exact StF.nil|refine x4 rfl rfl rfl ?_)));((refine q8 ?_;exact⟨(),by(exact z6 (by conv=>lhs;reduce)),trivial⟩)))))
      ·have hz:ovA P l=ZA:=by
        have h2:arT.eqB (ovA P l) ZA=true:=by simpa using hf
        exact u4.1 h2
       rw[z7o hP.1 hP.2 hz]
       (repeat (first|refine zs rfl ?_|refine zg rfl rfl rfl ?_|refine zd ?_|refine q8 ?_|refine q7 ?_|refine zne eqA rfl rfl rfl ?_))
       exact⟨(),by(exact z6 (by conv=>lhs;reduce)),trivial⟩
     ·have hol:=q8n (P:=P) (l:=l)
      (repeat (first|refine zs rfl ?_|refine zg rfl rfl rfl ?_|refine zd ?_|refine q8 ?_|refine q7 ?_|refine zne eqA rfl rfl rfl ?_))
      refine JK.loop (fun u:Nat=>⟨[(1,.lf (.optr 0 [])),(3,.lf (.optr 1 [])),(11,vI (fcn P l u:Nat)),(113,vI P),(114,vI (u:Int))],[(0,.cell seT (vS P l)),(1,.cell shT (.val shT (shW P l (ovA P l) (pkV P l) (stS P l u))))],2⟩)
       (fun u=>(u:Int)≤P) (fun u=>P.toNat-u) 0 (by omega) ?_ fun u hu=>?_
      ·rw[stS_zero,show fcn P l 0=0 from rfl];(exact z6 (by conv=>lhs;reduce))
      ·have hsl:=stS_len (P:=P) (l:=l) u
       have hfb:=z9l (P:=P) (l:=l) u
       have hss:=stS_succ (P:=P) (l:=l) u
       have hfs:=q5p (P:=P) (l:=l) u
       have hog:=fun h=>z12 (P:=P) (l:=l) (v:=u) h
       (repeat (first|refine zs rfl ?_|refine zg rfl rfl rfl ?_|refine zd ?_|refine q8 ?_|refine q7 ?_|refine zne eqA rfl rfl rfl ?_))
       refine z5 rfl (fun hd=>?_) (fun hd=>?_)
       ·(simp only[↓cdL] at hd;try simp only[Ty.dflt,Int.toNat_natCast] at hd)
        replace hog:=hog (by omega)
        rw[if_pos hd] at hog
        have hfl:flB P l u=decide ((ovA P l).getD u 0=pkV P l):=by rw[hog];rfl
        (repeat (first|refine zs rfl ?_|refine zg rfl rfl rfl ?_|refine zd ?_|refine q8 ?_|refine q7 ?_|refine zne eqA rfl rfl rfl ?_))
        refine z5 rfl (fun hf=>?_) (fun hf=>?_)
        ·(simp only[↓cdL] at hf;try simp only[Ty.dflt,Int.toNat_natCast] at hf)
         rw[hfl,if_pos (decide_eq_true hf)] at hfs
         (repeat (first|refine zs rfl ?_|refine zg rfl rfl rfl ?_|refine zd ?_|refine q8 ?_|refine q7 ?_|refine zne eqA rfl rfl rfl ?_))
         refine⟨u+1,?_,by push_cast;omega,by omega⟩
         rw[hss,hfs]
         (exact z6 (by conv=>lhs;reduce))
        ·(simp only[↓cdL] at hf;try simp only[Ty.dflt,Int.toNat_natCast] at hf)
         rw[hfl,decide_eq_false hf,if_neg (by decide),Nat.add_zero] at hfs
         (repeat (first|refine zs rfl ?_|refine zg rfl rfl rfl ?_|refine zd ?_|refine q8 ?_|refine q7 ?_|refine zne eqA rfl rfl rfl ?_))
         refine⟨u+1,?_,by push_cast;omega,by omega⟩
         rw[hss,hfs]
         (exact z6 (by conv=>lhs;reduce))
       ·(simp only[↓cdL] at hd;try simp only[Ty.dflt,Int.toNat_natCast] at hd)
        have hup2:u=P.toNat:=by omega
        rw[hup2,stT_zero hP.1]
        clear hsl hfb hss hfs hog
        have hN:=z9l (P:=P) (l:=l) P.toNat
        (repeat (first|refine zs rfl ?_|refine zg rfl rfl rfl ?_|refine zd ?_|refine q8 ?_|refine q7 ?_|refine zne eqA rfl rfl rfl ?_))
        refine JK.loop (fun u:Nat=>⟨[(1,.lf (.optr 0 [])),(3,.lf (.optr 1 [])),(11,vI (fcn P l P.toNat:Nat)),(138,vI P),(139,vI (u:Int))],[(0,.cell seT (vS P l)),(1,.cell shT (.val shT (shW P l (ovA P l) (pkV P l) (stT P l u))))],2⟩)
         (fun u=>(u:Int)≤P) (fun u=>P.toNat-u) 0 (by omega) (by(exact z6 (by conv=>lhs;reduce))) fun u hu=>?_
        have hsl:=stT_len (P:=P) (l:=l) u
        have hfb:=z9l (P:=P) (l:=l) u
        have hsg:=fun h=>stT_get (P:=P) (l:=l) (u:=u) h hP.2
        have hst:=fun h=>stT_hit (P:=P) (l:=l) (u:=u) h
        have hsm:=fun h=>stT_miss (P:=P) (l:=l) (u:=u) h
        (repeat (first|refine zs rfl ?_|refine zg rfl rfl rfl ?_|refine zd ?_|refine q8 ?_|refine q7 ?_|refine zne eqA rfl rfl rfl ?_))
        refine z5 rfl (fun hd=>?_) (fun hd=>?_)
        ·(simp only[↓cdL] at hd;try simp only[Ty.dflt,Int.toNat_natCast] at hd)
         replace hsg:=hsg hd
         have hsgb:-1≤(stT P l u).getD u 0:=by rw[hsg];omega
         (repeat (first|refine zs rfl ?_|refine zg rfl rfl rfl ?_|refine zd ?_|refine q8 ?_|refine q7 ?_|refine zne eqA rfl rfl rfl ?_))
         refine z5 rfl (fun hf=>?_) (fun hf=>?_)
         ·(simp only[↓cdL] at hf;try simp only[Ty.dflt,Int.toNat_natCast] at hf)
          rw[hsg] at hf
          (repeat (first|refine zs rfl ?_|refine zg rfl rfl rfl ?_|refine zd ?_|refine q8 ?_|refine q7 ?_|refine zne eqA rfl rfl rfl ?_))
          refine⟨u+1,?_,by push_cast;omega,by omega⟩
          rw[hst hd (by omega)]
          (exact z6 (by conv=>lhs;reduce))
         ·(simp only[↓cdL] at hf;try simp only[Ty.dflt,Int.toNat_natCast] at hf)
          rw[hsg] at hf
          (repeat (first|refine zs rfl ?_|refine zg rfl rfl rfl ?_|refine zd ?_|refine q8 ?_|refine q7 ?_|refine zne eqA rfl rfl rfl ?_))
          refine⟨u+1,?_,by push_cast;omega,by omega⟩
          rw[hsm (by omega)]
          (exact z6 (by conv=>lhs;reduce))
        ·(simp only[↓cdL] at hd;try simp only[Ty.dflt,Int.toNat_natCast] at hd)
         have hup3:u=P.toNat:=by omega
         rw[hup3,stT_end hP.1]
         (repeat (first|refine zs rfl ?_|refine zg rfl rfl rfl ?_|refine zd ?_|refine q8 ?_|refine q7 ?_|refine zne eqA rfl rfl rfl ?_))
         refine⟨.inl rfl,_,_,rfl,trivial,?_⟩
         rfl
end Go.Proofs.YtjfafggkkjgpeaaGreatDoor
namespace Go.Proofs.YtjfafggkkjgpeaaGreatDoor
open Go Go.RowKit Ox Ox.Sh Ox.Se
attribute [local irreducible] JC JL JK JW
attribute [local irreducible] ovA stA pkV
abbrev vOp(P:Int)(l:List Pt):AV:=.tup (.acons (.val (.ptr shT) (if seE P l=0 then some (shV P l) else none)) (.acons (vI (seE P l)) .anil))
theorem fn32(P:Int)(l:List Pt):Ox.Fn Tryz.prog 32 (.acons (vS P l) .anil) (·=vOp P l):=by
 refine Ox.Fn.intro xok Tryz.func32 rfl Tryz.call32 (Nat.le_of_ble_eq_true rfl) (fun E M0 up=>?_)
 refine z8 ?_
 (repeat (first|refine zs rfl ?_|refine zg rfl rfl rfl ?_|refine zd ?_|refine q8 ?_|refine q7 ?_|refine zc rfl (fn70 P l) rfl rfl ?_|refine ze rfl (fn70 P l) rfl ?_|refine zk rfl rfl (fun _=>fn70 P l) rfl rfl ?_))
 refine z5 rfl (fun hc=>?_) (fun hc=>?_)
 ·(simp only[↓cdL] at hc;try simp only[Ty.dflt,Int.toNat_natCast] at hc)
  (repeat (first|refine zs rfl ?_|refine zg rfl rfl rfl ?_|refine zd ?_|refine q8 ?_|refine q7 ?_))
  refine⟨.inl rfl,_,_,rfl,trivial,?_⟩
  unfold vOp
  rw[if_neg hc]
 ·(simp only[↓cdL] at hc;try simp only[Ty.dflt,Int.toNat_natCast] at hc)
  have hz:seE P l=0:=by omega
  (repeat (first|refine zs rfl ?_|refine zg rfl rfl rfl ?_|refine zd ?_|refine q8 ?_|refine q7 ?_|refine zc rfl (fn71 P l hz) rfl rfl ?_|refine ze rfl (fn71 P l hz) rfl ?_|refine zk rfl rfl (fun _=>fn71 P l hz) rfl rfl ?_))
  refine⟨.inl rfl,_,_,rfl,trivial,?_⟩
  unfold vOp
  rw[if_pos hz,hz]
theorem fn41(P:Int)(l:List Pt)(n:Int):Ox.Fn Tryz.prog 41 (.acons (vH P l) (.acons (vI n) .anil)) (·=vB (decide (0≤n∧n<(l.length:Int)))):=by
 refine Ox.Fn.intro xok Tryz.func41 rfl Tryz.call41 (Nat.le_of_ble_eq_true rfl) (fun E M0 up=>?_)
 refine z8 ?_
 refine JK.lenOf 0 rfl fun hlen=>?_
 replace hlen:l.length≤9223372036854775807:=hlen.1.2.1.1
 (repeat (first|refine zs rfl ?_|refine zg rfl rfl rfl ?_|refine zd ?_|refine q8 ?_|refine q7 ?_))
 refine⟨.inl rfl,_,_,rfl,trivial,?_⟩
 by_cases h:0≤n<;>simp[h]
theorem gp_cases{P:Int}{l:List Pt}(hP:1≤P)(hl:okP P l){i j:Nat}(hj:j<l.length):gp P l i j=if (l.getD j (0,0,())).1-eN P l i<0 then(l.getD j (0,0,())).1-eN P l i+P else(l.getD j (0,0,())).1-eN P l i:=by
 have h:=gp_eq (c:=-1) (l:=l) hP i j
 rw[LA1 hP hl hj,LE1 hP] at h
 rw[h]
 have e:aT l j=(l.getD j (0,0,())).1:=rfl
 rw[e]
 split<;>split<;>omega
theorem fn26(P:Int)(l:List Pt)(i j:Nat)(hP:1≤P∧P≤1000)(hl:okP P l)(hi:i<l.length)(hj:j<l.length):Ox.Fn Tryz.prog 26 (.acons (vH P l) (.acons (vI i) (.acons (vI j) .anil))) (·=vI (gp P l i j)):=by
 refine Ox.Fn.intro xok Tryz.func26 rfl Tryz.call26 (Nat.le_of_ble_eq_true rfl) (fun E M0 up=>?_)
 refine z8 ?_
 have c91:=fn60 P l (ovA P l) (pkV P l) (stA P l) i hP hl hi
 have hb:=(z49 hl hj).1
 have he:0≤eN P l i∧eN P l i<P:=p7 hP.1 _
 have hg:=gp_cases hP.1 hl (i:=i) hj
 generalize eN P l i=e at *
 (repeat (first|refine zs rfl ?_|refine zg rfl rfl rfl ?_|refine zd ?_|refine q8 ?_|refine q7 ?_|refine zc rfl (c91) rfl rfl ?_|refine ze rfl (c91) rfl ?_|refine zk rfl rfl (fun _=>c91) rfl rfl ?_))
 refine z5 rfl (fun hc=>?_) (fun hc=>?_)
 ·(simp only[↓cdL] at hc;try simp only[Ty.dflt,Int.toNat_natCast] at hc)
  (repeat (first|refine zs rfl ?_|refine zg rfl rfl rfl ?_|refine zd ?_|refine q8 ?_|refine q7 ?_))
  refine⟨.inl rfl,_,_,rfl,trivial,?_⟩
  rw[hg,if_pos hc];rfl
 ·(simp only[↓cdL] at hc;try simp only[Ty.dflt,Int.toNat_natCast] at hc)
  (repeat (first|refine zs rfl ?_|refine zg rfl rfl rfl ?_|refine zd ?_|refine q8 ?_|refine q7 ?_))
  refine⟨.inl rfl,_,_,rfl,trivial,?_⟩
  rw[hg,if_neg hc];rfl
theorem fn37(P:Int)(l:List Pt)(h8:l.length≤8):Ox.Fn Tryz.prog 37 (.acons (vH P l) .anil) (·=vI ((2 ^ l.length-1:Nat):Int)):=by
 refine Ox.Fn.intro xok Tryz.func37 rfl Tryz.call37 (Nat.le_of_ble_eq_true rfl) (fun E M0 up=>?_)
 refine z8 ?_
 have hpl:1≤2 ^ l.length∧2 ^ l.length≤256:=⟨Nat.one_le_two_pow,Nat.pow_le_pow_right (n:=2) (by omega) (by omega:l.length≤8)⟩
 have hpw:(2:Int) ^ l.length=((2 ^ l.length:Nat):Int):=by push_cast;rfl
 have hpb:1≤(2:Int) ^ l.length∧(2:Int) ^ l.length≤256:=by rw[hpw];omega
 (repeat (first|refine zs rfl ?_|refine zg rfl rfl rfl ?_|refine zd ?_|refine q8 ?_|refine q7 ?_))
 refine⟨.inl rfl,_,_,rfl,trivial,?_⟩
 refine congrArg vI ?_
 rw[Int.one_mul,Int.toNat_natCast,hpw]
 omega
theorem fn141(P:Int)(l:List Pt)(n:Nat)(k:Int)(hP:1≤P∧P≤1000)(hl:okP P l)(hn:n<l.length):Ox.Fn Tryz.prog 141 (.acons (vH P l) (.acons (vI n) (.acons (vI k) .anil))) (·=vI (if k=0 then sA P l n else sE P l n:Nat)):=by
 refine Ox.Fn.intro xok Tryz.func141 rfl Tryz.call141 (Nat.le_of_ble_eq_true rfl) (fun E M0 up=>?_)
 refine z8 ?_
 have hb:=(z49 hl hn).1
 have he:0≤eN P l n∧eN P l n<P:=p7 hP.1 _
 have c91:=fn60 P l (ovA P l) (pkV P l) (stA P l) n hP hl hn
 have hlen:=stA_len (P:=P) (l:=l)
 (repeat (first|refine zs rfl ?_|refine zg rfl rfl rfl ?_|refine zd ?_|refine q8 ?_|refine q7 ?_))
 refine z5 rfl (fun hc=>?_) (fun hc=>?_)
 ·(simp only[↓cdL] at hc;try simp only[Ty.dflt,Int.toNat_natCast] at hc)
  (repeat (first|refine zs rfl ?_|refine zg rfl rfl rfl ?_|refine zd ?_|refine q8 ?_|refine q7 ?_))
  refine⟨.inl rfl,_,_,rfl,trivial,?_⟩
  rw[if_pos hc]
  refine congrArg vI ?_
  have:=z6l (P:=P) (l:=l) (v:=(aT l n).toNat) (by unfold aT;show(l.getD n (0,0,())).1.toNat<1000;omega)
  rw[if_pos (by unfold aT;show(((l.getD n (0,0,())).1.toNat:Nat):Int)<P;omega)] at this
  exact this
 ·(simp only[↓cdL] at hc;try simp only[Ty.dflt,Int.toNat_natCast] at hc)
  have hg:=z6l (P:=P) (l:=l) (v:=(eN P l n).toNat) (by omega)
  rw[if_pos (by omega)] at hg
  (repeat (first|refine zs rfl ?_|refine zg rfl rfl rfl ?_|refine zd ?_|refine q8 ?_|refine q7 ?_|refine zc rfl (c91) rfl rfl ?_|refine ze rfl (c91) rfl ?_|refine zk rfl rfl (fun _=>c91) rfl rfl ?_))
  refine⟨.inl rfl,_,_,rfl,trivial,?_⟩
  rw[if_neg hc]
  exact congrArg vI hg
theorem fn138(P:Int)(l:List Pt)(n:Nat)(s:Int)(hP:1≤P∧P≤1000)(hl:okP P l)(hn:n<l.length):Ox.Fn Tryz.prog 138 (.acons (vH P l) (.acons (vI n) (.acons (vI s) .anil))) (·=vB (decide ((sA P l n:Int)=s∨(sE P l n:Int)=s))):=by
 refine Ox.Fn.intro xok Tryz.func138 rfl Tryz.call138 (Nat.le_of_ble_eq_true rfl) (fun E M0 up=>?_)
 refine z8 ?_
 have c0:=fn141 P l n 0 hP hl hn
 have c1:=fn141 P l n 1 hP hl hn
 rw[if_pos rfl] at c0
 rw[if_neg (by decide)] at c1
 (repeat (first|refine zs rfl ?_|refine zg rfl rfl rfl ?_|refine zd ?_|refine q8 ?_|refine q7 ?_|refine zc rfl (c0) rfl rfl ?_|refine ze rfl (c0) rfl ?_|refine zk rfl rfl (fun _=>c0) rfl rfl ?_|refine zc rfl (c1) rfl rfl ?_|refine ze rfl (c1) rfl ?_|refine zk rfl rfl (fun _=>c1) rfl rfl ?_))
 refine⟨.inl rfl,_,_,rfl,trivial,?_⟩
 refine congrArg vB ?_
 by_cases h:(sA P l n:Int)=s
 ·rw[decide_eq_true (Or.inl h),beq_iff_eq.2 h];rfl
 ·have e:decide ((sA P l n:Int)=s∨(sE P l n:Int)=s)=((sE P l n:Int)==s):=by
   rw[Bool.eq_iff_iff,decide_eq_true_iff,beq_iff_eq]
   exact⟨fun h'=>h'.resolve_left h,Or.inr⟩
  rw[e,beq_eq_false_iff_ne.2 h];rfl
theorem fn34(P:Int)(l:List Pt)(hP:1≤P∧P≤1000):Ox.Fn Tryz.prog 34 (.acons (vH P l) .anil) (·=vI (pkA P l:Nat)):=by
 refine Ox.Fn.intro xok Tryz.func34 rfl Tryz.call34 (Nat.le_of_ble_eq_true rfl) (fun E M0 up=>?_)
 refine z8 ?_
 have hlen:=q8n (P:=P) (l:=l)
 have hf:=(q22 (l:=l) hP.1).1
 (repeat (first|refine zs rfl ?_|refine zg rfl rfl rfl ?_|refine zd ?_|refine q8 ?_|refine q7 ?_))
 refine JK.loopE (σ:=Nat) (τ:=Unit) (fun u:Nat=>⟨[(0,vH P l),(3,vI (-1)),(9,vI P),(10,vI (u:Int))],[],0⟩) (fun u=>u≤pkA P l) (fun u=>P.toNat-u) 0 (Nat.zero_le _) (by(exact z6 (by conv=>lhs;reduce))) (fun _=>⟨[(3,vI (pkA P l:Nat))],[],0⟩) (fun _=>True) (fun _ _=>?_) fun u hu=>?_
 ·(repeat (first|refine zs rfl ?_|refine zg rfl rfl rfl ?_|refine zd ?_|refine q8 ?_|refine q7 ?_))
  refine⟨.inl rfl,_,_,rfl,trivial,?_⟩
  rfl
 ·have hog:=fun h=>z12 (P:=P) (l:=l) (v:=u) h
  (repeat (first|refine zs rfl ?_|refine zg rfl rfl rfl ?_|refine zd ?_|refine q8 ?_|refine q7 ?_))
  refine z5 rfl (fun hd=>?_) (fun hd=>?_)
  ·(simp only[↓cdL] at hd;try simp only[Ty.dflt,Int.toNat_natCast] at hd)
   replace hog:=hog (by omega)
   rw[if_pos hd] at hog
   (repeat (first|refine zs rfl ?_|refine zg rfl rfl rfl ?_|refine zd ?_|refine q8 ?_|refine q7 ?_))
   refine z5 rfl (fun he=>?_) (fun he=>?_)
   ·(simp only[↓cdL] at he;try simp only[Ty.dflt,Int.toNat_natCast] at he)
    rw[hog] at he
    have hup:u=pkA P l:=by
     rcases Nat.lt_or_ge u (pkA P l) with h|h
     ·have:=q5h (P:=P) (l:=l) u h
      rw[he] at this;omega
     ·omega
    (repeat (first|refine zs rfl ?_|refine zg rfl rfl rfl ?_|refine zd ?_|refine q8 ?_|refine q7 ?_))
    exact⟨(),by rw[← hup];(exact z6 (by conv=>lhs;reduce)),trivial⟩
   ·(simp only[↓cdL] at he;try simp only[Ty.dflt,Int.toNat_natCast] at he)
    rw[hog] at he
    have hlt:u<pkA P l:=by
     rcases Nat.lt_or_ge u (pkA P l) with h|h
     ·exact h
     ·have:u=pkA P l:=by omega
      exact absurd (by rw[this];exact pkV_def) he
    (repeat (first|refine zs rfl ?_|refine zg rfl rfl rfl ?_|refine zd ?_|refine q8 ?_|refine q7 ?_))
    exact⟨u+1,by(exact z6 (by conv=>lhs;reduce)),by omega,by omega⟩
  ·(simp only[↓cdL] at hd;try simp only[Ty.dflt,Int.toNat_natCast] at hd)
   omega
end Go.Proofs.YtjfafggkkjgpeaaGreatDoor
namespace Go.Proofs.YtjfafggkkjgpeaaGreatDoor
open Go Go.RowKit Ox Ox.Sh Ox.Se
attribute [local irreducible] JC JL JK JW
attribute [local irreducible] ovA stA pkV
abbrev iL(o:List Nat):List Int:=o.map (fun n:Nat=>(n:Int))
theorem z86(o:List Nat)(k:Nat):iL (o++[k])=iL o++[(k:Int)]:=by simp
theorem q6l(o:List Nat)(i:Nat):(iL o).getD i 0=((o.getD i 0:Nat):Int):=by
 rw[List.getD_eq_getElem?_getD,List.getElem?_map,List.getD_eq_getElem?_getD]
 cases o[i]?<;>rfl
theorem q2t(o:List Nat):(iL o).length=o.length:=List.length_map _
def orN(t:Nat)(o:List Nat):Nat:=o.foldl (fun t n=>t ||| 2 ^ n) t
theorem z3m(t:Nat)(o:List Nat)(n:Nat):orN t (o++[n])=orN t o ||| 2 ^ n:=by unfold orN;rw[List.foldl_append];rfl
theorem z13(k:Nat):∀ (o:List Nat) (t:Nat),(orN t o).testBit k=(t.testBit k||decide (k∈o))
 |[],t=>by simp[orN]
 |n::o,t=>by
  have e:orN t (n::o)=orN (t ||| 2 ^ n) o:=rfl
  rw[e,z13 k o,Nat.testBit_or,Nat.testBit_two_pow]
  by_cases h:n=k
  ·subst h;simp
  ·have h':¬ k=n:=fun e=>h e.symm
   simp[h,h']
theorem z7r{M:Nat}:∀ {o:List Nat} {t:Nat},t<2 ^ M→(∀ n∈o,n<M)→orN t o<2 ^ M
 |[],_,ht,_=>ht
 |n::o,t,ht,h=>z7r (o:=o) (Nat.or_lt_two_pow ht (Nat.pow_lt_pow_right (by omega) (h n List.mem_cons_self))) fun k hk=>h k (List.mem_cons_of_mem _ hk)
theorem and_one(b k:Nat):(b / 2 ^ k) &&& 1=1↔b.testBit k=true:=by
 rw[Nat.testBit_eq_decide_div_mod_eq,Nat.and_one_is_mod,decide_eq_true_iff]
theorem bit_term(t k:Nat):((((t:Int) / 2 ^ ((k:Int)).toNat).toNat &&& ((1:Int)).toNat:Nat):Int)=(((t / 2 ^ k) &&& 1:Nat):Int):=by
 rw[Int.toNat_natCast,show((t:Int) / 2 ^ k)=((t / 2 ^ k:Nat):Int) by push_cast;rfl,Int.toNat_natCast];rfl
theorem j0l(t k:Nat):(((((t:Int) / 2 ^ ((k:Int)).toNat).toNat &&& ((1:Int)).toNat:Nat):Int)=1)↔t.testBit k=true:=by
 rw[bit_term,← and_one]
 omega
theorem div_bd(b k:Nat)(hb:b<65536):0≤(b:Int) / 2 ^ k∧(b:Int) / 2 ^ k≤65536:=by
 have e:(b:Int) / 2 ^ k=((b / 2 ^ k:Nat):Int):=by push_cast;rfl
 rw[e]
 have:=Nat.div_le_self b (2 ^ k)
 generalize b / 2 ^ k=z at this ⊢
 omega
def bitsK(b k:Nat):List Nat:=(List.range k).filter fun i=>b.testBit i
abbrev bitsL(b:Nat):List Nat:=bitsK b 8
theorem x6{b k i:Nat}:i∈bitsK b k↔i<k∧b.testBit i=true:=by unfold bitsK;rw[List.mem_filter,List.mem_range]
theorem z5m(b k:Nat):bitsK b (k+1)=bitsK b k++if b.testBit k=true then [k] else []:=by
 unfold bitsK
 rw[List.range_succ,List.filter_append]
 congr 1
 cases h:b.testBit k<;>simp[h]
theorem q61(b k:Nat):(bitsK b k).length≤k:=by
 have:=List.length_filter_le (fun i=>b.testBit i) (List.range k)
 rw[List.length_range] at this
 exact this
set_option maxHeartbeats 1000000 in
theorem fn38(b:Nat)(hb:b<256):Ox.Fn Tryz.prog 38 (.acons (vI b) .anil) (·=vL (iL (bitsL b))):=by
 refine Ox.Fn.intro xok Tryz.func38 rfl Tryz.call38 (Nat.le_of_ble_eq_true rfl) (fun E M0 up=>?_)
 refine z8 ?_
 (repeat (first|refine zs rfl ?_|refine zg rfl rfl rfl ?_|refine zd ?_|refine q8 ?_|refine q7 ?_|refine zlf j8 rfl rfl rfl ?_|refine zdf j8 rfl rfl ?_))
 refine JK.ghost 3 3 (.int .i64) rfl ?_
 (refine JK.fz [0] [0,3,5] rfl ?_)
 refine JK.loop (fun k:Nat=>⟨[(0,vI b),(3,vL (iL (bitsK b k))),(5,vI (k:Int))],[],1⟩) (fun k=>k≤8) (fun k=>8-k) 0 (Nat.zero_le _) (by(exact z6 (by conv=>lhs;reduce))) fun k hk=>?_
 have hs:=z5m b k
 have hl:=q61 b k
 have hl1:(iL (bitsK b k)).length≤8:=by rw[q2t];omega
 have hfin:k=8→bitsK b k=bitsK b 8:=fun e=>by rw[e]
 have hbi:=j0l b k
 have hdv:=div_bd b k (by omega)
 generalize bitsK b k=o at hs hl hl1 hfin ⊢
 (repeat (first|refine zs rfl ?_|refine zg rfl rfl rfl ?_|refine zd ?_|refine q8 ?_|refine q7 ?_|refine zlf j8 rfl rfl rfl ?_|refine zdf j8 rfl rfl ?_))
 refine z5 rfl (fun hc=>?_) (fun hc=>?_)
 ·(simp only[↓cdL] at hc;try simp only[Ty.dflt,Int.toNat_natCast] at hc)
  (repeat (first|refine zs rfl ?_|refine zg rfl rfl rfl ?_|refine zd ?_|refine q8 ?_|refine q7 ?_|refine zlf j8 rfl rfl rfl ?_|refine zdf j8 rfl rfl ?_))
  refine z5 rfl (fun hd=>?_) (fun hd=>?_)
  ·rw[if_pos (hbi.1 (beq_iff_eq.1 hd))] at hs
   have htk:(List.take (iL o).length (iL o)).length=o.length:=by rw[List.take_length,q2t]
   have ht:List.take ((iL o).length:Int).toNat (iL o)++[(k:Int)]=iL (bitsK b (k+1)):=by rw[hs,Int.toNat_natCast,List.take_length,z86]
   iterate 11 (refine zs rfl ?_)
   (refine j1f [2] [0,3,5] rfl ?_)
   (repeat (first|refine zs rfl ?_|refine zg rfl rfl rfl ?_|refine zd ?_|refine q8 ?_|refine q7 ?_|refine zlf j8 rfl rfl rfl ?_|refine zdf j8 rfl rfl ?_))
   exact⟨k+1,by(refine q9t (by conv=>lhs;reduce) ?_ ?_ ?_ ?_ rfl<;>(repeat' (first|exact trivial|exact rfl|refine And.intro ?_ ?_|exact Nat.le_of_ble_eq_true rfl|refine q7g ?_|(refine congrArg (fun z:Int=>some (AV.val (.int .i64) z)) ?_;push_cast;omega)|exact congrArg (fun z:List Int=>some (vL z)) ht))),by omega,by omega⟩
  ·rw[if_neg (fun h=>by rw[hbi.2 h] at hd;simp at hd),List.append_nil] at hs
   (repeat (first|refine zs rfl ?_|refine zg rfl rfl rfl ?_|refine zd ?_|refine q8 ?_|refine q7 ?_|refine zlf j8 rfl rfl rfl ?_|refine zdf j8 rfl rfl ?_))
   refine⟨k+1,?_,by omega,by omega⟩
   rw[hs]
   (exact z6 (by conv=>lhs;reduce))
 ·(simp only[↓cdL] at hc;try simp only[Ty.dflt,Int.toNat_natCast] at hc)
  (repeat (first|refine zs rfl ?_|refine zg rfl rfl rfl ?_|refine zd ?_|refine q8 ?_|refine q7 ?_|refine zlf j8 rfl rfl rfl ?_|refine zdf j8 rfl rfl ?_))
  refine⟨.inl rfl,_,_,rfl,trivial,?_⟩
  rw[hfin (by omega)]
def sdE(P:Int)(l:List Pt)(e:Nat):Nat:=if e % 2=0 then sA P l (e / 2) else sE P l (e / 2)
def toB(P:Int)(l:List Pt)(m e:Nat):Bool:=decide (sA P l m=sdE P l e∨sE P l m=sdE P l e)
abbrev ppH(P:Int)(l:List Pt):AV:=.val (.ptr (.ptr shT)) (some (some (shV P l)))
abbrev meT(P:Int)(l:List Pt):AV:=.fn 138 (.acons (vH P l) .anil) .anil
abbrev tF(P:Int)(l:List Pt)(n k:Int):AV:=.fn 140 .anil (.acons (.pfn (meT P l)) (.acons (ppH P l) (.acons (pI n) (.acons (pI k) .anil))))
theorem sd_eq(P:Int)(l:List Pt)(n k:Nat)(hk:k<2):sdE P l (2*n+k)=if (k:Int)=0 then sA P l n else sE P l n:=by
 unfold sdE
 have h1:(2*n+k) / 2=n:=by omega
 have h2:(2*n+k) % 2=k:=by omega
 rw[h1,h2]
 by_cases h:k=0
 ·rw[if_pos h,if_pos (by omega)]
 ·rw[if_neg h,if_neg (by omega)]
theorem fn140(P:Int)(l:List Pt)(m n k:Nat)(hP:1≤P∧P≤1000)(hl:okP P l)(hm:m<l.length)(hn:n<l.length)(hk:k<2) :
  Ox.Fn Tryz.prog 140 (.acons (vI m) (.acons (.pfn (meT P l)) (.acons (ppH P l) (.acons (pI n) (.acons (pI k) .anil))))) (·=vB (toB P l m (2*n+k))):=by
 refine Ox.Fn.intro xok Tryz.func140 rfl Tryz.call140 (Nat.le_of_ble_eq_true rfl) (fun E M0 up=>?_)
 refine z8 ?_
 have c1:=fn141 P l n k hP hl hn
 have c2:=fn138 P l m (if (k:Int)=0 then sA P l n else sE P l n:Nat) hP hl hm
 have e:toB P l m (2*n+k)=decide ((sA P l m:Int)=((if (k:Int)=0 then sA P l n else sE P l n:Nat):Int)∨(sE P l m:Int)=((if (k:Int)=0 then sA P l n else sE P l n:Nat):Int)):=by
  unfold toB
  rw[sd_eq P l n k hk]
  refine decide_eq_decide.2 ?_
  rw[Int.ofNat_inj,Int.ofNat_inj]
 rw[e]
 generalize (if (k:Int)=0 then sA P l n else sE P l n:Nat)=w at c1 c2 ⊢
 (repeat (first|refine zs rfl ?_|refine zg rfl rfl rfl ?_|refine zd ?_|refine q8 ?_|refine q7 ?_|refine zlf j8 rfl rfl rfl ?_|refine zdf j8 rfl rfl ?_|refine zc rfl (c1) rfl rfl ?_|refine ze rfl (c1) rfl ?_|refine zk rfl rfl (fun _=>c1) rfl rfl ?_|refine zc rfl (c2) rfl rfl ?_|refine ze rfl (c2) rfl ?_|refine zk rfl rfl (fun _=>c2) rfl rfl ?_))
 refine⟨.inl rfl,_,_,rfl,trivial,?_⟩
 rfl
theorem fn139(P:Int)(l:List Pt)(xs:List Nat)(n k:Nat)(hP:1≤P∧P≤1000)(hl:okP P l)(hx:∀ m∈xs,m<l.length)(hn:n<l.length)(hk:k<2) :
  Ox.Fn Tryz.prog 139 (.acons (vL (iL xs)) (.acons (tF P l n k) .anil)) (·=vI (idxB (fun m=>toB P l m (2*n+k)) xs 0)):=by
 refine Ox.Fn.intro xok Tryz.func139 rfl Tryz.call139 (Nat.le_of_ble_eq_true rfl) (fun E M0 up=>?_)
 refine z8 ?_
 refine JK.lenOf 0 rfl fun hlen=>?_
 replace hlen:(iL xs).length≤9223372036854775807:=hlen.1
 have hil:(iL xs).length=xs.length:=q2t xs
 (repeat (first|refine zs rfl ?_|refine zg rfl rfl rfl ?_|refine zd ?_|refine q8 ?_|refine q7 ?_|refine zlf j8 rfl rfl rfl ?_|refine zdf j8 rfl rfl ?_))
 refine JK.loop (fun i:Nat=>⟨[(1,tF P l n k),(7,vL (iL xs)),(8,vI (iL xs).length),(9,vI (i:Int))],[],0⟩) (fun i=>i≤xs.length∧idxB (fun m=>toB P l m (2*n+k)) xs 0=idxB (fun m=>toB P l m (2*n+k)) (xs.drop i) i) (fun i=>xs.length-i) 0 (by simp) (by(exact z6 (by conv=>lhs;reduce))) fun i ⟨hi,hd⟩=>?_
 (repeat (first|refine zs rfl ?_|refine zg rfl rfl rfl ?_|refine zd ?_|refine q8 ?_|refine q7 ?_|refine zlf j8 rfl rfl rfl ?_|refine zdf j8 rfl rfl ?_))
 refine z5 rfl (fun hc=>?_) (fun hc=>?_)
 ·(simp only[↓cdL] at hc;try simp only[Ty.dflt,Int.toNat_natCast] at hc)
  have hi':i<xs.length:=by omega
  have e1:(iL xs).getD i 0=((xs.getD i 0:Nat):Int):=q6l xs i
  have hm:xs.getD i 0<l.length:=by rw[k0 xs hi'];exact hx _ (List.getElem_mem hi')
  have c:=fn140 P l (xs.getD i 0) n k hP hl hm hn hk
  rw[← e1] at c
  (repeat (first|refine zs rfl ?_|refine zg rfl rfl rfl ?_|refine zd ?_|refine q8 ?_|refine q7 ?_|refine zlf j8 rfl rfl rfl ?_|refine zdf j8 rfl rfl ?_|refine zc rfl (c) rfl rfl ?_|refine ze rfl (c) rfl ?_|refine zk rfl rfl (fun _=>c) rfl rfl ?_))
  refine z5 rfl (fun hb=>?_) (fun hb=>?_)
  ·(repeat (first|refine zs rfl ?_|refine zg rfl rfl rfl ?_|refine zd ?_|refine q8 ?_|refine q7 ?_|refine zlf j8 rfl rfl rfl ?_|refine zdf j8 rfl rfl ?_))
   refine⟨.inl rfl,_,_,rfl,trivial,?_⟩
   rw[k0 xs hi'] at hb
   rw[hd,List.drop_eq_getElem_cons hi',idxB,if_pos hb]
  ·(repeat (first|refine zs rfl ?_|refine zg rfl rfl rfl ?_|refine zd ?_|refine q8 ?_|refine q7 ?_|refine zlf j8 rfl rfl rfl ?_|refine zdf j8 rfl rfl ?_))
   rw[k0 xs hi'] at hb
   refine⟨i+1,by(exact z6 (by conv=>lhs;reduce)),⟨by omega,?_⟩,by omega⟩
   rw[hd,List.drop_eq_getElem_cons hi',idxB,if_neg (by rw[hb];simp)]
 ·(simp only[↓cdL] at hc;try simp only[Ty.dflt,Int.toNat_natCast] at hc)
  (repeat (first|refine zs rfl ?_|refine zg rfl rfl rfl ?_|refine zd ?_|refine q8 ?_|refine q7 ?_|refine zlf j8 rfl rfl rfl ?_|refine zdf j8 rfl rfl ?_))
  refine⟨.inl rfl,_,_,rfl,trivial,?_⟩
  obtain rfl:i=xs.length:=by omega
  rw[hd,List.drop_length];rfl
def tcB(P:Int)(l:List Pt)(p e:Nat):Bool:=(bitsL p).any fun m=>toB P l m e
def tcN(P:Int)(l:List Pt)(p k:Nat):Nat:=orN 0 ((List.range k).filter (tcB P l p))
theorem tcN_succ(P:Int)(l:List Pt)(p k:Nat):tcN P l p (k+1)=if tcB P l p k=true then tcN P l p k ||| 2 ^ k else tcN P l p k:=by
 unfold tcN
 rw[List.range_succ,List.filter_append]
 by_cases h:tcB P l p k=true
 ·rw[List.filter_cons_of_pos h,if_pos h]
  exact z3m _ _ _
 ·rw[List.filter_cons_of_neg h,if_neg h]
  simp
theorem tcN_bit(P:Int)(l:List Pt)(p k e:Nat):(tcN P l p k).testBit e=(decide (e<k)&&tcB P l p e):=by
 unfold tcN
 rw[z13,Nat.zero_testBit,Bool.false_or,Bool.eq_iff_iff,decide_eq_true_iff,List.mem_filter,List.mem_range,Bool.and_eq_true,decide_eq_true_iff]
theorem tcN_lt(P:Int)(l:List Pt)(p:Nat){k:Nat}(hk:k≤16):tcN P l p k<65536:=by
 unfold tcN
 refine z7r (M:=16) (by decide) fun n hn=>?_
 have:=List.mem_range.1 (List.mem_filter.1 hn).1
 omega
set_option maxHeartbeats 4000000 in
theorem fn77(P:Int)(l:List Pt)(p:Nat)(hP:1≤P∧P≤1000)(hl:okP P l)(h8:l.length≤8)(hp:p<2 ^ l.length) :
  Ox.Fn Tryz.prog 77 (.acons (vH P l) (.acons (vI p) .anil)) (·=vI (tcN P l p (2*l.length):Nat)):=by
 refine Ox.Fn.intro xok Tryz.func77 rfl Tryz.call77 (Nat.le_of_ble_eq_true rfl) (fun E M0 up=>?_)
 refine z8 ?_
 have hp256:p<256:=Nat.lt_of_lt_of_le hp (Nat.pow_le_pow_right (n:=2) (by omega) h8)
 have hbm:∀ m∈bitsL p,m<l.length:=fun m hm=>by
  have h1:=(x6.1 hm).2
  refine Nat.lt_of_not_le fun hle=>?_
  rw[Nat.testBit_lt_two_pow (Nat.lt_of_lt_of_le hp (Nat.pow_le_pow_right (by omega) hle))] at h1
  cases h1
 have c78:=fn38 p hp256
 (repeat (first|refine zs rfl ?_|refine zg rfl rfl rfl ?_|refine zd ?_|refine q8 ?_|refine q7 ?_|refine zlf j8 rfl rfl rfl ?_|refine zdf j8 rfl rfl ?_))
 refine JK.loop (fun n:Nat=>⟨[(1,vI p),(2,.lf (.optr 0 [])),(5,vI (tcN P l p (2*n):Nat)),(6,.pfn (meT P l)),(17,vI l.length),(18,vI (n:Int))],[(0,.cell (.ptr shT) (vH P l))],1⟩)
  (fun n=>n≤l.length) (fun n=>l.length-n) 0 (Nat.zero_le _) (by(exact z6 (by conv=>lhs;reduce))) fun n hn=>?_
 have hfin:n=l.length→tcN P l p (2*n)=tcN P l p (2*l.length):=fun e=>by rw[e]
 (repeat (first|refine zs rfl ?_|refine zg rfl rfl rfl ?_|refine zd ?_|refine q8 ?_|refine q7 ?_|refine zlf j8 rfl rfl rfl ?_|refine zdf j8 rfl rfl ?_))
 refine z5 rfl (fun hc=>?_) (fun hc=>?_)
 ·(simp only[↓cdL] at hc;try simp only[Ty.dflt,Int.toNat_natCast] at hc)
  have hn':n<l.length:=by omega
  (repeat (first|refine zs rfl ?_|refine zg rfl rfl rfl ?_|refine zd ?_|refine q8 ?_|refine q7 ?_|refine zlf j8 rfl rfl rfl ?_|refine zdf j8 rfl rfl ?_))
  refine JK.loop (fun k:Nat=>⟨[(1,vI p),(2,.lf (.optr 0 [])),(5,vI (tcN P l p (2*n+k):Nat)),(6,.pfn (meT P l)),(7,.lf (.optr 1 [])),(17,vI l.length),(18,vI (n:Int)),(21,vI (k:Int))],[(0,.cell (.ptr shT) (vH P l)),(1,.cell (.int .i64) (vI (n:Int)))],2⟩)
   (fun k=>k≤2) (fun k=>2-k) 0 (Nat.zero_le _) (by(exact z6 (by conv=>lhs;reduce))) fun k hk=>?_
  have hts:=tcN_succ P l p (2*n+k)
  have htl:=tcN_lt P l p (k:=2*n+k) (by omega)
  have hfk:k=2→tcN P l p (2*n+k)=tcN P l p (2*(n+1)):=fun e=>by rw[e];rfl
  generalize tcN P l p (2*n+k)=T at hts htl hfk ⊢
  (repeat (first|refine zs rfl ?_|refine zg rfl rfl rfl ?_|refine zd ?_|refine q8 ?_|refine q7 ?_|refine zlf j8 rfl rfl rfl ?_|refine zdf j8 rfl rfl ?_))
  refine z5 rfl (fun hd=>?_) (fun hd=>?_)
  ·(simp only[↓cdL] at hd;try simp only[Ty.dflt,Int.toNat_natCast] at hd)
   have c98:=fn139 P l (bitsL p) n k hP hl hbm hn' (by omega)
   have hid:(0≤idxB (fun m=>toB P l m (2*n+k)) (bitsL p) 0)↔tcB P l p (2*n+k)=true:=q0j
   generalize idxB (fun m=>toB P l m (2*n+k)) (bitsL p) 0=ix at c98 hid
   have he:(2*(n:Int)+(k:Int)).toNat=2*n+k:=by omega
   have hpl:2 ^ (2*n+k)<65536:=Nat.pow_lt_pow_right (a:=2) (by omega) (by omega:2*n+k<16)
   have hpw:(2:Int) ^ (2*(n:Int)+(k:Int)).toNat=((2 ^ (2*n+k):Nat):Int):=by rw[he];push_cast;rfl
   have hpb:0≤(2:Int) ^ (2*(n:Int)+(k:Int)).toNat∧(2:Int) ^ (2*(n:Int)+(k:Int)).toNat≤65536:=by rw[hpw];exact⟨Int.natCast_nonneg _,Int.ofNat_le.2 (Nat.le_of_lt hpl)⟩
   have hor:(((T:Int).toNat ||| ((1:Int)*2 ^ (2*(n:Int)+(k:Int)).toNat).toNat:Nat):Int)=((T ||| 2 ^ (2*n+k):Nat):Int):=by
    rw[Int.toNat_natCast,Int.one_mul,hpw,Int.toNat_natCast]
   have hol:T ||| 2 ^ (2*n+k)<65536:=Nat.or_lt_two_pow (n:=16) htl hpl
   clear hpw
   (repeat (first|refine zs rfl ?_|refine zg rfl rfl rfl ?_|refine zd ?_|refine q8 ?_|refine q7 ?_|refine zlf j8 rfl rfl rfl ?_|refine zdf j8 rfl rfl ?_|refine zc rfl (c78) rfl rfl ?_|refine ze rfl (c78) rfl ?_|refine zk rfl rfl (fun _=>c78) rfl rfl ?_|refine zc rfl (c98) rfl rfl ?_|refine ze rfl (c98) rfl ?_|refine zk rfl rfl (fun _=>c98) rfl rfl ?_))
   refine z5 rfl (fun hg=>?_) (fun hg=>?_)
   ·(simp only[↓cdL] at hg;try simp only[Ty.dflt,Int.toNat_natCast] at hg)
    rw[if_pos (hid.1 hg)] at hts
    (repeat (first|refine zs rfl ?_|refine zg rfl rfl rfl ?_|refine zd ?_|refine q8 ?_|refine q7 ?_|refine zlf j8 rfl rfl rfl ?_|refine zdf j8 rfl rfl ?_))
    refine⟨k+1,?_,by omega,by omega⟩
    rw[show 2*n+(k+1)=2*n+k+1 by omega,hts,← hor]
    (exact z6 (by conv=>lhs;reduce))
   ·(simp only[↓cdL] at hg;try simp only[Ty.dflt,Int.toNat_natCast] at hg)
    rw[if_neg (fun h=>hg (hid.2 h))] at hts
    (repeat (first|refine zs rfl ?_|refine zg rfl rfl rfl ?_|refine zd ?_|refine q8 ?_|refine q7 ?_|refine zlf j8 rfl rfl rfl ?_|refine zdf j8 rfl rfl ?_))
    refine⟨k+1,?_,by omega,by omega⟩
    rw[show 2*n+(k+1)=2*n+k+1 by omega,hts]
    (exact z6 (by conv=>lhs;reduce))
  ·(simp only[↓cdL] at hd;try simp only[Ty.dflt,Int.toNat_natCast] at hd)
   rw[hfk (by omega)]
   (repeat (first|refine zs rfl ?_|refine zg rfl rfl rfl ?_|refine zd ?_|refine q8 ?_|refine q7 ?_|refine zlf j8 rfl rfl rfl ?_|refine zdf j8 rfl rfl ?_))
   exact⟨n+1,by(exact z6 (by conv=>lhs;reduce)),by omega,by omega⟩
 ·(simp only[↓cdL] at hc;try simp only[Ty.dflt,Int.toNat_natCast] at hc)
  (repeat (first|refine zs rfl ?_|refine zg rfl rfl rfl ?_|refine zd ?_|refine q8 ?_|refine q7 ?_|refine zlf j8 rfl rfl rfl ?_|refine zdf j8 rfl rfl ?_))
  refine⟨.inl rfl,_,_,rfl,trivial,?_⟩
  rw[hfin (by omega)]
def tM(P:Int)(l:List Pt)(p m:Nat):Bool:=tcB P l p (2*m)||tcB P l p (2*m+1)
def grN(P:Int)(l:List Pt)(p k:Nat):Nat:=orN p ((List.range k).filter (tM P l p))
theorem grN_succ(P:Int)(l:List Pt)(p k:Nat):grN P l p (k+1)=if tM P l p k=true then grN P l p k ||| 2 ^ k else grN P l p k:=by
 unfold grN
 rw[List.range_succ,List.filter_append]
 by_cases h:tM P l p k=true
 ·rw[List.filter_cons_of_pos h,if_pos h]
  exact z3m _ _ _
 ·rw[List.filter_cons_of_neg h,if_neg h]
  simp
theorem q80(P:Int)(l:List Pt)(p k m:Nat):(grN P l p k).testBit m=(p.testBit m||(decide (m<k)&&tM P l p m)):=by
 unfold grN
 rw[z13]
 congr 1
 rw[Bool.eq_iff_iff,decide_eq_true_iff,List.mem_filter,List.mem_range,Bool.and_eq_true,decide_eq_true_iff]
theorem z9a{P:Int}{l:List Pt}{p k M:Nat}(hp:p<2 ^ M)(hk:k≤M):grN P l p k<2 ^ M:=by
 unfold grN
 refine z7r hp fun n hn=>?_
 have:=List.mem_range.1 (List.mem_filter.1 hn).1
 omega
theorem grN_ge(P:Int)(l:List Pt)(p k:Nat):p≤grN P l p k:=by
 have h:p ||| grN P l p k=grN P l p k:=Nat.eq_of_testBit_eq fun i=>by
  rw[Nat.testBit_or,q80];cases p.testBit i<;>simp
 rw[← h]
 exact Nat.left_le_or
theorem z6e(t m:Nat):t &&& (3*2 ^ (2*m))=0↔(t.testBit (2*m)||t.testBit (2*m+1))=false:=by
 have e:(3*2 ^ (2*m))=2 ^ (2*m) ||| 2 ^ (2*m+1):=by
  refine Nat.eq_of_testBit_eq fun i=>?_
  rw[Nat.testBit_or,Nat.testBit_two_pow,Nat.testBit_two_pow,Nat.mul_comm,Nat.testBit_two_pow_mul]
  rcases Nat.lt_or_ge i (2*m) with h|h
  ·have h1:¬ 2*m=i:=by omega
   have h2:¬ 2*m+1=i:=by omega
   simp[h1,h2,Nat.not_le.2 h]
  ·obtain⟨j,rfl⟩:∃ j,i=2*m+j:=⟨i-2*m,by omega⟩
   have h3:2*m+j-2*m=j:=by omega
   rw[h3]
   match j with
   |0=>simp
   |1=>
    have h4:Nat.testBit 3 1=true:=by decide
    simp[h4]
   |j+2=>
    have h1:¬ 2*m=2*m+(j+2):=by omega
    have h2:¬ 2*m+1=2*m+(j+2):=by omega
    have h4:Nat.testBit 3 (j+2)=false:=Nat.testBit_lt_two_pow (Nat.lt_of_lt_of_le (by decide:3<2 ^ 2) (Nat.pow_le_pow_right (by omega) (by omega)))
    simp[h1,h2,h4]
 rw[e]
 constructor
 ·intro h
  have a:=congrArg (fun z=>z.testBit (2*m)) h
  have b:=congrArg (fun z=>z.testBit (2*m+1)) h
  simp only[Nat.testBit_and,Nat.testBit_or,Nat.testBit_two_pow,Nat.zero_testBit] at a b
  simp at a b
  rw[a,b];rfl
 ·intro h
  rw[Bool.or_eq_false_iff] at h
  refine Nat.eq_of_testBit_eq fun i=>?_
  rw[Nat.testBit_and,Nat.testBit_or,Nat.testBit_two_pow,Nat.testBit_two_pow,Nat.zero_testBit]
  by_cases h1:2*m=i
  ·rw[← h1,h.1];rfl
  ·by_cases h2:2*m+1=i
   ·rw[← h2,h.2];rfl
   ·simp[h1,h2]
def grF(P:Int)(l:List Pt):Nat→Nat→Nat
 |0,p=>p
 |f+1,p=>if grN P l p l.length=p then p else grF P l f (grN P l p l.length)
def grp(P:Int)(l:List Pt)(n:Nat):Nat:=grF P l 256 (2 ^ n)
set_option maxHeartbeats 4000000 in
theorem fn36(P:Int)(l:List Pt)(n:Nat)(hP:1≤P∧P≤1000)(hl:okP P l)(h8:l.length≤8)(hn:n<l.length) :
  Ox.Fn Tryz.prog 36 (.acons (vH P l) (.acons (vI n) .anil)) (·=vI (grp P l n:Nat)):=by
 refine Ox.Fn.intro xok Tryz.func36 rfl Tryz.call36 (Nat.le_of_ble_eq_true rfl) (fun E M0 up=>?_)
 refine z8 ?_
 have hlp:2 ^ l.length≤256:=Nat.pow_le_pow_right (n:=2) (by omega) h8
 have hnp:2 ^ n<2 ^ l.length:=Nat.pow_lt_pow_right (by omega) hn
 have hnw:(2:Int) ^ n=((2 ^ n:Nat):Int):=by push_cast;rfl
 have hnb:0≤(2:Int) ^ n∧(2:Int) ^ n≤65536:=by rw[hnw];exact⟨Int.natCast_nonneg _,Int.ofNat_le.2 (show 2 ^ n≤65536 from Nat.le_trans (Nat.le_of_lt hnp) (Nat.le_trans hlp (by decide)))⟩
 have e0:((2 ^ n:Nat):Int)=1*2 ^ ((n:Int)).toNat:=by rw[Int.one_mul,Int.toNat_natCast,hnw]
 refine q0o (s':=⟨[(0,vH P l),(1,vI n)],[],0⟩) (by(exact z6 (by conv=>lhs;reduce))) ?_
 (repeat (first|refine zs rfl ?_|refine zg rfl rfl rfl ?_|refine zd ?_|refine q8 ?_|refine q7 ?_|refine zlf j8 rfl rfl rfl ?_|refine zdf j8 rfl rfl ?_))
 refine JK.loop (σ:=Nat×Nat) (fun q=>⟨[(0,vH P l),(5,vI (q.2:Nat))],[],0⟩)
  (fun q=>grp P l n=grF P l q.1 q.2∧q.2<2 ^ l.length∧256≤q.1+q.2) (fun q=>q.1) (256,2 ^ n) ⟨rfl,hnp,by omega⟩ ?_ fun q hq=>?_
 ·dsimp only;rw[e0];(exact z6 (by conv=>lhs;reduce))
 obtain⟨f,p⟩:=q
 obtain⟨q1,q2,q3⟩:=hq
 dsimp only at q1 q2 q3 ⊢
 have hp256:p<256:=by omega
 have c80:=fn77 P l p hP hl h8 q2
 have htl:=tcN_lt P l p (k:=2*l.length) (by omega)
 have htb:=fun e=>tcN_bit P l p (2*l.length) e
 (repeat (first|refine zs rfl ?_|refine zg rfl rfl rfl ?_|refine zd ?_|refine q8 ?_|refine q7 ?_|refine zlf j8 rfl rfl rfl ?_|refine zdf j8 rfl rfl ?_))
 refine JK.loop (fun k:Nat=>⟨[(0,vH P l),(5,vI (p:Nat)),(6,vI (grN P l p k:Nat)),(16,vI l.length),(17,vI (k:Int))],[],0⟩)
  (fun k=>k≤l.length) (fun k=>l.length-k) 0 (Nat.zero_le _) (by(exact z6 (by conv=>lhs;reduce))) fun k hk=>?_
 have hgs:=grN_succ P l p k
 have hgl:=z9a (P:=P) (l:=l) (k:=k) q2 hk
 have hgf:k=l.length→grN P l p k=grN P l p l.length:=fun e=>by rw[e]
 generalize grN P l p k=G at hgs hgl hgf ⊢
 (repeat (first|refine zs rfl ?_|refine zg rfl rfl rfl ?_|refine zd ?_|refine q8 ?_|refine q7 ?_|refine zlf j8 rfl rfl rfl ?_|refine zdf j8 rfl rfl ?_))
 refine z5 rfl (fun hc=>?_) (fun hc=>?_)
 ·(simp only[↓cdL] at hc;try simp only[Ty.dflt,Int.toNat_natCast] at hc)
  have hk8:k<l.length:=by omega
  have e1:(2*(k:Int)).toNat=2*k:=by omega
  have hpl:3*2 ^ (2*k)<65536:=by
   have:2 ^ (2*k)≤2 ^ 14:=Nat.pow_le_pow_right (by omega) (by omega)
   have e:(2:Nat) ^ 14=16384:=by decide
   omega
  have hpw:(3:Int)*2 ^ (2*(k:Int)).toNat=((3*2 ^ (2*k):Nat):Int):=by rw[e1];push_cast;rfl
  have hpb:0≤(3:Int)*2 ^ (2*(k:Int)).toNat∧(3:Int)*2 ^ (2*(k:Int)).toNat≤65536:=by rw[hpw];exact⟨Int.natCast_nonneg _,Int.ofNat_le.2 (Nat.le_of_lt hpl)⟩
  have hqb:0≤(2:Int) ^ (2*(k:Int)).toNat∧(2:Int) ^ (2*(k:Int)).toNat≤65536:=by omega
  have hwp:2 ^ k<2 ^ l.length:=Nat.pow_lt_pow_right (by omega) hk8
  have hww:(2:Int) ^ k=((2 ^ k:Nat):Int):=by push_cast;rfl
  have hwb:0≤(2:Int) ^ k∧(2:Int) ^ k≤65536:=by rw[hww];exact⟨Int.natCast_nonneg _,Int.ofNat_le.2 (show 2 ^ k≤65536 from Nat.le_trans (Nat.le_of_lt hwp) (Nat.le_trans hlp (by decide)))⟩
  have hor:(((G:Int).toNat ||| ((1:Int)*2 ^ ((k:Int)).toNat).toNat:Nat):Int)=((G ||| 2 ^ k:Nat):Int):=by
   rw[Int.toNat_natCast,Int.toNat_natCast,Int.one_mul,hww,Int.toNat_natCast]
  have hgo:G ||| 2 ^ k<2 ^ l.length:=Nat.or_lt_two_pow hgl hwp
  have hcnd:((((tcN P l p (2*l.length):Nat):Int).toNat &&& ((3:Int)*2 ^ (2*(k:Int)).toNat).toNat:Nat):Int)≠0↔tM P l p k=true:=by
   rw[Int.toNat_natCast,hpw,Int.toNat_natCast]
   have h3:=z6e (tcN P l p (2*l.length)) k
   rw[htb,htb,decide_eq_true (by omega),decide_eq_true (by omega),Bool.true_and,Bool.true_and] at h3
   show((tcN P l p (2*l.length) &&& 3*2 ^ (2*k):Nat):Int)≠((0:Nat):Int)↔_
   rw[ne_eq,Int.ofNat_inj,h3]
   unfold tM
   rw[Bool.not_eq_false]
  have hgG:G<256:=by omega
  clear hww hpw
  generalize tcN P l p (2*l.length)=T at c80 htl hcnd
  (repeat (first|refine zs rfl ?_|refine zg rfl rfl rfl ?_|refine zd ?_|refine q8 ?_|refine q7 ?_|refine zlf j8 rfl rfl rfl ?_|refine zdf j8 rfl rfl ?_|refine zc rfl (c80) rfl rfl ?_|refine ze rfl (c80) rfl ?_|refine zk rfl rfl (fun _=>c80) rfl rfl ?_))
  refine z5 rfl (fun hd=>?_) (fun hd=>?_)
  ·(simp only[↓cdL] at hd;try simp only[Ty.dflt,Int.toNat_natCast] at hd)
   rw[if_pos (hcnd.1 hd)] at hgs
   (repeat (first|refine zs rfl ?_|refine zg rfl rfl rfl ?_|refine zd ?_|refine q8 ?_|refine q7 ?_|refine zlf j8 rfl rfl rfl ?_|refine zdf j8 rfl rfl ?_))
   refine⟨k+1,?_,by omega,by omega⟩
   rw[hgs,← hor]
   (exact z6 (by conv=>lhs;reduce))
  ·(simp only[↓cdL] at hd;try simp only[Ty.dflt,Int.toNat_natCast] at hd)
   rw[if_neg (fun h=>(hcnd.2 h) hd)] at hgs
   (repeat (first|refine zs rfl ?_|refine zg rfl rfl rfl ?_|refine zd ?_|refine q8 ?_|refine q7 ?_|refine zlf j8 rfl rfl rfl ?_|refine zdf j8 rfl rfl ?_))
   refine⟨k+1,?_,by omega,by omega⟩
   rw[hgs]
   (exact z6 (by conv=>lhs;reduce))
 ·(simp only[↓cdL] at hc;try simp only[Ty.dflt,Int.toNat_natCast] at hc)
  rw[hgf (by omega)]
  have hge:=grN_ge P l p l.length
  have hlt:=z9a (P:=P) (l:=l) (k:=l.length) q2 (Nat.le_refl _)
  have hst:0<f:=by
   rcases Nat.eq_zero_or_pos f with e|e
   ·omega
   ·exact e
  obtain⟨f',rfl⟩:∃ f',f=f'+1:=⟨f-1,by omega⟩
  rw[grF] at q1
  generalize grN P l p l.length=Q at q1 hge hlt ⊢
  (repeat (first|refine zs rfl ?_|refine zg rfl rfl rfl ?_|refine zd ?_|refine q8 ?_|refine q7 ?_|refine zlf j8 rfl rfl rfl ?_|refine zdf j8 rfl rfl ?_))
  refine z5 rfl (fun hd=>?_) (fun hd=>?_)
  ·(simp only[↓cdL] at hd;try simp only[Ty.dflt,Int.toNat_natCast] at hd)
   have hd':Q=p:=Int.ofNat_inj.1 hd
   rw[if_pos hd'] at q1
   (repeat (first|refine zs rfl ?_|refine zg rfl rfl rfl ?_|refine zd ?_|refine q8 ?_|refine q7 ?_|refine zlf j8 rfl rfl rfl ?_|refine zdf j8 rfl rfl ?_))
   refine⟨.inl rfl,_,_,rfl,trivial,?_⟩
   rw[q1]
  ·(simp only[↓cdL] at hd;try simp only[Ty.dflt,Int.toNat_natCast] at hd)
   have hd':Q≠p:=fun h=>hd (by rw[h])
   rw[if_neg hd'] at q1
   (repeat (first|refine zs rfl ?_|refine zg rfl rfl rfl ?_|refine zd ?_|refine q8 ?_|refine q7 ?_|refine zlf j8 rfl rfl rfl ?_|refine zdf j8 rfl rfl ?_))
   exact⟨(f',Q),by dsimp only;(exact z6 (by conv=>lhs;reduce)),⟨q1,hlt,by dsimp only;omega⟩,Nat.lt_succ_self _⟩
end Go.Proofs.YtjfafggkkjgpeaaGreatDoor
namespace Go.Proofs.YtjfafggkkjgpeaaGreatDoor
open Go Go.RowKit Ox Ox.Sh Ox.Se
attribute [local irreducible] JC JL JK JW
attribute [local irreducible] ovA stA pkV
theorem fn203(P:Int)(l:List Pt)(i j:Nat)(hz:seE P l=0)(hi:i<l.length)(hj:j<l.length):Ox.Fn Tryz.prog 203 (.acons (vS P l) (.acons (vI i) (.acons (vI j) .anil))) (·=vI (gp P l i j)):=by
 obtain⟨hP,h1,h8,hl⟩:=q1h.1 hz
 refine Ox.Fn.intro xok Tryz.func203 rfl Tryz.call203 (Nat.le_of_ble_eq_true rfl) (fun E M0 up=>?_)
 refine z8 ?_
 have c54:=fn243 P l i hP hl hi
 have hb:=(z49 hl hj).1
 have he:0≤eN P l i∧eN P l i<P:=p7 hP.1 _
 have hg:gp P l i j=((l.getD j (0,0,())).1+P-eN P l i) % P:=by
  show((l.getD j (0,0,())).1-eN P l i) % P=_
  rw[← Int.add_emod_right]
  congr 1;omega
 generalize eN P l i=e at *
 (repeat (first|refine zs rfl ?_|refine zg rfl rfl rfl ?_|refine zd ?_|refine q8 ?_|refine q7 ?_|refine zc rfl (c54) rfl rfl ?_|refine ze rfl (c54) rfl ?_|refine zk rfl rfl (fun _=>c54) rfl rfl ?_))
 refine⟨.inl rfl,_,_,rfl,trivial,?_⟩
 rw[hg];rfl
def overE(P:Int)(l:List Pt)(u:Int):Int:=if seE P l≠0 then seE P l else if 0≤u∧u<P then 0 else 3
def overI(P:Int)(l:List Pt)(u:Int):Int:=if overE P l u=0 then ov P l u else 0
theorem over_ok{P:Int}{l:List Pt}{u:Int}:overE P l u=0↔seE P l=0∧0≤u∧u<P:=by
 unfold overE
 split
 ·rename_i h;exact⟨fun h'=>absurd h' h,fun h'=>absurd h'.1 h⟩
 ·rename_i h
  split
  ·rename_i h';exact⟨fun _=>⟨Classical.not_not.1 h,h'⟩,fun _=>rfl⟩
  ·rename_i h';exact⟨fun e=>by omega,fun e=>absurd e.2 h'⟩
theorem fn17(P:Int)(l:List Pt)(u:Int):Ox.Fn Tryz.prog 17 (.acons (vS P l) (.acons (vI u) .anil)) (·=vT2 (overI P l u) (overE P l u)):=by
 refine Ox.Fn.intro xok Tryz.func17 rfl Tryz.call17 (Nat.le_of_ble_eq_true rfl) (fun E M0 up=>?_)
 refine z8 ?_
 have c61:=fn32 P l
 by_cases hz:seE P l=0
 ·obtain⟨hP,h1,h8,hl⟩:=q1h.1 hz
  have c58:=fn35 0 (P-1) (u::List.nil)
  have e1:(∀ x∈(u::List.nil),0≤x∧x≤P-1)↔(0≤u∧u<P):=by simp;omega
  have e1':decide (∀ x∈(u::List.nil),0≤x∧x≤P-1)=decide (0≤u∧u<P):=decide_eq_decide.2 e1
  rw[e1'] at c58
  unfold vOp at c61
  rw[if_pos hz,hz] at c61
  have hlen:=q8n (P:=P) (l:=l)
  (repeat (first|refine zs rfl ?_|refine zg rfl rfl rfl ?_|refine zd ?_|refine q8 ?_|refine q7 ?_|refine zc rfl (c61) rfl rfl ?_|refine ze rfl (c61) rfl ?_|refine zk rfl rfl (fun _=>c61) rfl rfl ?_|refine zc rfl (c58) rfl rfl ?_|refine ze rfl (c58) rfl ?_|refine zk rfl rfl (fun _=>c58) rfl rfl ?_))
  refine z5 rfl (fun h=>absurd h (by decide)) (fun _=>?_)
  (repeat (first|refine zs rfl ?_|refine zg rfl rfl rfl ?_|refine zd ?_|refine q8 ?_|refine q7 ?_|refine zc rfl (c58) rfl rfl ?_|refine ze rfl (c58) rfl ?_|refine zk rfl rfl (fun _=>c58) rfl rfl ?_))
  refine z5 rfl (fun hd=>?_) (fun hd=>?_)
  ·(simp only[↓cdL] at hd;try simp only[Ty.dflt,Int.toNat_natCast] at hd)
   (repeat (first|refine zs rfl ?_|refine zg rfl rfl rfl ?_|refine zd ?_|refine q8 ?_|refine q7 ?_))
   refine⟨.inl rfl,_,_,rfl,trivial,?_⟩
   have e:overE P l u=3:=by unfold overE;rw[if_neg (by omega),if_neg hd]
   unfold overI;rw[e,if_neg (by decide)]
  ·(simp only[↓cdL] at hd;try simp only[Ty.dflt,Int.toNat_natCast] at hd)
   have hg:=z12 (P:=P) (l:=l) (v:=u.toNat) (by omega)
   rw[if_pos (by omega),Int.toNat_of_nonneg hd.1] at hg
   have e:overE P l u=0:=over_ok.2 ⟨hz,hd⟩
   have e2:overI P l u=(ovA P l).getD u.toNat 0:=by unfold overI;rw[e,if_pos rfl,hg]
   rw[e,e2]
   (repeat (first|refine zs rfl ?_|refine zg rfl rfl rfl ?_|refine zd ?_|refine q8 ?_|refine q7 ?_))
   refine⟨.inl rfl,_,_,rfl,trivial,?_⟩
   rfl
 ·unfold vOp at c61
  rw[if_neg hz] at c61
  (repeat (first|refine zs rfl ?_|refine zg rfl rfl rfl ?_|refine zd ?_|refine q8 ?_|refine q7 ?_|refine zc rfl (c61) rfl rfl ?_|refine ze rfl (c61) rfl ?_|refine zk rfl rfl (fun _=>c61) rfl rfl ?_))
  refine z5 rfl (fun hc=>?_) (fun hc=>?_)
  ·(repeat (first|refine zs rfl ?_|refine zg rfl rfl rfl ?_|refine zd ?_|refine q8 ?_|refine q7 ?_))
   refine⟨.inl rfl,_,_,rfl,trivial,?_⟩
   have e:overE P l u=seE P l:=by unfold overE;rw[if_pos hz]
   unfold overI;rw[e,if_neg hz]
  ·(simp only[↓cdL] at hc;try simp only[Ty.dflt,Int.toNat_natCast] at hc)
   omega
def pkI(P:Int)(l:List Pt):Int:=if seE P l=0 then pkV P l else 0
def paI(P:Int)(l:List Pt):Int:=if seE P l=0 then(pkA P l:Nat) else 0
theorem fn16(P:Int)(l:List Pt):Ox.Fn Tryz.prog 16 (.acons (vS P l) .anil) (·=.tup (.acons (vI (pkI P l)) (.acons (vI (paI P l)) (.acons (vI (seE P l)) .anil)))):=by
 refine Ox.Fn.intro xok Tryz.func16 rfl Tryz.call16 (Nat.le_of_ble_eq_true rfl) (fun E M0 up=>?_)
 refine z8 ?_
 have c61:=fn32 P l
 unfold vOp at c61
 by_cases hz:seE P l=0
 ·obtain⟨hP,h1,h8,hl⟩:=q1h.1 hz
  have c68:=fn34 P l hP
  rw[if_pos hz,hz] at c61
  (repeat (first|refine zs rfl ?_|refine zg rfl rfl rfl ?_|refine zd ?_|refine q8 ?_|refine q7 ?_|refine zc rfl (c61) rfl rfl ?_|refine ze rfl (c61) rfl ?_|refine zk rfl rfl (fun _=>c61) rfl rfl ?_|refine zc rfl (c68) rfl rfl ?_|refine ze rfl (c68) rfl ?_|refine zk rfl rfl (fun _=>c68) rfl rfl ?_))
  refine z5 rfl (fun h=>absurd h (by decide)) (fun _=>?_)
  (repeat (first|refine zs rfl ?_|refine zg rfl rfl rfl ?_|refine zd ?_|refine q8 ?_|refine q7 ?_|refine zc rfl (c68) rfl rfl ?_|refine ze rfl (c68) rfl ?_|refine zk rfl rfl (fun _=>c68) rfl rfl ?_))
  refine⟨.inl rfl,_,_,rfl,trivial,?_⟩
  unfold pkI paI;rw[if_pos hz,if_pos hz,hz]
 ·rw[if_neg hz] at c61
  (repeat (first|refine zs rfl ?_|refine zg rfl rfl rfl ?_|refine zd ?_|refine q8 ?_|refine q7 ?_|refine zc rfl (c61) rfl rfl ?_|refine ze rfl (c61) rfl ?_|refine zk rfl rfl (fun _=>c61) rfl rfl ?_))
  refine z5 rfl (fun hc=>?_) (fun hc=>?_)
  ·(repeat (first|refine zs rfl ?_|refine zg rfl rfl rfl ?_|refine zd ?_|refine q8 ?_|refine q7 ?_))
   refine⟨.inl rfl,_,_,rfl,trivial,?_⟩
   unfold pkI paI;rw[if_neg hz,if_neg hz]
  ·(simp only[↓cdL] at hc;try simp only[Ty.dflt,Int.toNat_natCast] at hc)
   omega
end Go.Proofs.YtjfafggkkjgpeaaGreatDoor
namespace Go.Proofs.YtjfafggkkjgpeaaGreatDoor
open Go Go.RowKit Ox Ox.Sh Ox.Se
attribute [local irreducible] JC JL JK JW
attribute [local irreducible] ovA stA pkV
theorem fn40(P:Int)(l:List Pt)(n:Int):Ox.Fn Tryz.prog 40 (.acons (vI n) (.acons (ppH P l) .anil)) (·=vB (!decide (0≤n∧n<(l.length:Int)))):=by
 refine Ox.Fn.intro xok Tryz.func40 rfl Tryz.call40 (Nat.le_of_ble_eq_true rfl) (fun E M0 up=>?_)
 refine z8 ?_
 (repeat (first|refine zs rfl ?_|refine zg rfl rfl rfl ?_|refine zd ?_|refine q8 ?_|refine q7 ?_|refine zc rfl (fn41 P l n) rfl rfl ?_|refine ze rfl (fn41 P l n) rfl ?_|refine zk rfl rfl (fun _=>fn41 P l n) rfl rfl ?_))
 refine⟨.inl rfl,_,_,rfl,trivial,?_⟩
 rfl
def inB(l:List Pt)(xs:List Int):Bool:=!xs.any fun n=>!decide (0≤n∧n<(l.length:Int))
theorem z85{l:List Pt}{xs:List Int}:inB l xs=true↔∀ x∈xs,0≤x∧x<(l.length:Int):=by
 unfold inB
 rw[Bool.not_eq_true',List.any_eq_false]
 constructor
 ·intro h x hx
  have:=h x hx
  simpa using this
 ·intro h x hx
  simpa using h x hx
def conB(P:Int)(l:List Pt)(xs:List Int)(k:Nat):Bool:=(List.range k).all fun i=>decide (gp P l (xs.getD i 0).toNat (xs.getD (i+1) 0).toNat=0)
theorem z93(P:Int)(l:List Pt)(xs:List Int)(k:Nat):conB P l xs (k+1)=(conB P l xs k&&decide (gp P l (xs.getD k 0).toNat (xs.getD (k+1) 0).toNat=0)):=by
 unfold conB
 rw[List.range_succ,List.all_append];simp
theorem z5k{P:Int}{l:List Pt}{xs:List Int}{k m:Nat}(hk:k<m)(h:gp P l (xs.getD k 0).toNat (xs.getD (k+1) 0).toNat≠0):conB P l xs m=false:=by
 unfold conB
 rw[List.all_eq_false]
 exact⟨k,List.mem_range.2 hk,by simpa using h⟩
def conE(P:Int)(l:List Pt)(xs:List Int):Int:=if seE P l≠0 then seE P l else if inB l xs=false then 3 else if conB P l xs (xs.length-1)=false then 20 else 0
theorem in_get{l:List Pt}{xs:List Int}(h:inB l xs=true){i:Nat}(hi:i<xs.length):(xs.getD i 0).toNat<l.length∧xs.getD i 0=((xs.getD i 0).toNat:Int):=by
 have:=z85.1 h (xs.getD i 0) (by rw[k0 xs hi];exact List.getElem_mem hi)
 omega
set_option maxHeartbeats 1000000 in
theorem fn19(P:Int)(l:List Pt)(xs:List Int):Ox.Fn Tryz.prog 19 (.acons (vS P l) (.acons (vL xs) .anil)) (·=vI (conE P l xs)):=by
 refine Ox.Fn.intro xok Tryz.func19 rfl Tryz.call19 (Nat.le_of_ble_eq_true rfl) (fun E M0 up=>?_)
 refine z8 ?_
 refine JK.lenOf 1 rfl fun hlen=>?_
 replace hlen:xs.length≤9223372036854775807:=hlen.1
 have c61:=fn32 P l
 unfold vOp at c61
 by_cases hz:seE P l=0
 ·obtain⟨hP,h1,h8,hl⟩:=q1h.1 hz
  have c62:=fn39 xs (fun n=>!decide (0≤n∧n<(l.length:Int))) (fun x _=>fn40 P l x)
  have hib:(xs.any fun n=>!decide (0≤n∧n<(l.length:Int)))=!inB l xs:=by unfold inB;rw[Bool.not_not]
  rw[hib] at c62
  rw[if_pos hz,hz] at c61
  (repeat (first|refine zs rfl ?_|refine zg rfl rfl rfl ?_|refine zd ?_|refine q8 ?_|refine q7 ?_|refine zc rfl (c61) rfl rfl ?_|refine ze rfl (c61) rfl ?_|refine zk rfl rfl (fun _=>c61) rfl rfl ?_|refine zc rfl (c62) rfl rfl ?_|refine ze rfl (c62) rfl ?_|refine zk rfl rfl (fun _=>c62) rfl rfl ?_))
  refine z5 rfl (fun h=>absurd h (by decide)) (fun _=>?_)
  (repeat (first|refine zs rfl ?_|refine zg rfl rfl rfl ?_|refine zd ?_|refine q8 ?_|refine q7 ?_|refine zc rfl (c62) rfl rfl ?_|refine ze rfl (c62) rfl ?_|refine zk rfl rfl (fun _=>c62) rfl rfl ?_))
  refine z5 rfl (fun hd=>?_) (fun hd=>?_)
  ·(simp only[↓cdL] at hd;try simp only[Ty.dflt,Int.toNat_natCast] at hd)
   (repeat (first|refine zs rfl ?_|refine zg rfl rfl rfl ?_|refine zd ?_|refine q8 ?_|refine q7 ?_))
   refine⟨.inl rfl,_,_,rfl,trivial,?_⟩
   unfold conE;rw[if_neg (by omega),if_pos (by simpa using hd)]
  ·have hin:inB l xs=true:=by simpa using hd
   (repeat (first|refine zs rfl ?_|refine zg rfl rfl rfl ?_|refine zd ?_|refine q8 ?_|refine q7 ?_))
   refine JK.loop (fun j:Nat=>⟨[(1,vL xs),(5,.lf (.optr 0 [])),(7,vI ((j:Int)+1))],[(0,.cell (.ptr shT) (vH P l))],1⟩) (fun j=>j≤xs.length-1∧conB P l xs j=true) (fun j=>xs.length-j) 0 ⟨Nat.zero_le _,rfl⟩ (by(exact z6 (by conv=>lhs;reduce))) fun j ⟨hj,hcj⟩=>?_
   (repeat (first|refine zs rfl ?_|refine zg rfl rfl rfl ?_|refine zd ?_|refine q8 ?_|refine q7 ?_))
   refine z5 rfl (fun he=>?_) (fun he=>?_)
   ·(simp only[↓cdL] at he;try simp only[Ty.dflt,Int.toNat_natCast] at he)
    have hj':j+1<xs.length:=by omega
    obtain⟨a1,a2⟩:=in_get hin (i:=j) (by omega)
    obtain⟨b1,b2⟩:=in_get hin (i:=j+1) hj'
    have c65:=fn26 P l (xs.getD j 0).toNat (xs.getD (j+1) 0).toNat hP hl a1 b1
    rw[← a2,← b2] at c65
    have e1:((j:Int)+1-1).toNat=j:=by omega
    have e2:((j:Int)+1).toNat=j+1:=by omega
    have c65':Ox.Fn Tryz.prog 26 (.acons (vH P l) (.acons (vI (xs.getD ((j:Int)+1-1).toNat 0)) (.acons (vI (xs.getD ((j:Int)+1).toNat 0)) .anil))) (·=vI (gp P l (xs.getD j 0).toNat (xs.getD (j+1) 0).toNat)):=by rw[e1,e2];exact c65
    have hgb:=(q7l (l:=l) hP.1 (xs.getD j 0).toNat (xs.getD (j+1) 0).toNat).1
    have hcs:=z93 P l xs j
    have hcf:gp P l (xs.getD j 0).toNat (xs.getD (j+1) 0).toNat≠0→conB P l xs (xs.length-1)=false:=z5k (by omega)
    rw[hcj] at hcs
    generalize gp P l (xs.getD j 0).toNat (xs.getD (j+1) 0).toNat=g at c65' hgb hcs hcf
    (repeat (first|refine zs rfl ?_|refine zg rfl rfl rfl ?_|refine zd ?_|refine q8 ?_|refine q7 ?_|refine zc rfl (c65') rfl rfl ?_|refine ze rfl (c65') rfl ?_|refine zk rfl rfl (fun _=>c65') rfl rfl ?_))
    refine z5 rfl (fun hg=>?_) (fun hg=>?_)
    ·(simp only[↓cdL] at hg;try simp only[Ty.dflt,Int.toNat_natCast] at hg)
     (repeat (first|refine zs rfl ?_|refine zg rfl rfl rfl ?_|refine zd ?_|refine q8 ?_|refine q7 ?_))
     refine⟨.inl rfl,_,_,rfl,trivial,?_⟩
     unfold conE;rw[if_neg (by omega),if_neg (by rw[hin];simp),if_pos (hcf (by omega))]
    ·(simp only[↓cdL] at hg;try simp only[Ty.dflt,Int.toNat_natCast] at hg)
     (repeat (first|refine zs rfl ?_|refine zg rfl rfl rfl ?_|refine zd ?_|refine q8 ?_|refine q7 ?_))
     refine⟨j+1,?_,⟨by omega,by rw[hcs,decide_eq_true (by omega)];rfl⟩,by omega⟩
     push_cast
     (exact z6 (by conv=>lhs;reduce))
   ·(simp only[↓cdL] at he;try simp only[Ty.dflt,Int.toNat_natCast] at he)
    (repeat (first|refine zs rfl ?_|refine zg rfl rfl rfl ?_|refine zd ?_|refine q8 ?_|refine q7 ?_))
    refine⟨.inl rfl,_,_,rfl,trivial,?_⟩
    have e:xs.length-1=j:=by omega
    unfold conE;rw[if_neg (by omega),if_neg (by rw[hin];simp),e,hcj,if_neg (by simp)]
 ·rw[if_neg hz] at c61
  (repeat (first|refine zs rfl ?_|refine zg rfl rfl rfl ?_|refine zd ?_|refine q8 ?_|refine q7 ?_|refine zc rfl (c61) rfl rfl ?_|refine ze rfl (c61) rfl ?_|refine zk rfl rfl (fun _=>c61) rfl rfl ?_))
  refine z5 rfl (fun hc=>?_) (fun hc=>?_)
  ·(repeat (first|refine zs rfl ?_|refine zg rfl rfl rfl ?_|refine zd ?_|refine q8 ?_|refine q7 ?_))
   refine⟨.inl rfl,_,_,rfl,trivial,?_⟩
   unfold conE;rw[if_pos hz]
  ·(simp only[↓cdL] at hc;try simp only[Ty.dflt,Int.toNat_natCast] at hc)
   omega
end Go.Proofs.YtjfafggkkjgpeaaGreatDoor
namespace Go.Proofs.YtjfafggkkjgpeaaGreatDoor
open Go Go.RowKit Ox Ox.Sh Ox.Se
attribute [local irreducible] JC JL JK JW
attribute [local irreducible] ovA stA pkV
theorem q01{α:Type}(xs:List α){i:Nat}(h:i<xs.length)(d:α):xs.take (i+1)=xs.take i++[xs.getD i d]:=by
 rw[List.take_succ,List.getElem?_eq_getElem h,k0 xs h];rfl
def Ord(N:Nat)(xs:List Int):Prop:=xs.length=N∧(∀ x∈xs,0≤x∧x<(N:Int))∧xs.Nodup
instance (N:Nat)(xs:List Int):Decidable (Ord N xs):=by unfold Ord;infer_instance
def seenR(xs:List Int):List Int:=(List.range 8).map fun k:Nat=>((xs.count (k:Int):Nat):Int)
theorem n3(xs:List Int):(seenR xs).length=8:=by simp[seenR]
theorem q0g(xs:List Int){k:Nat}(hk:k<8):(seenR xs).getD k 0=((xs.count (k:Int):Nat):Int):=by
 unfold seenR
 rw[List.getD_eq_getElem?_getD,List.getElem?_map,List.getElem?_range hk];rfl
theorem z42(xs:List Int){x:Nat}(hx:x<8):seenR (xs++[(x:Int)])=(seenR xs).set x ((seenR xs).getD x 0+1):=by
 refine List.ext_getElem (by simp[seenR]) fun n h1 h2=>?_
 have hn:n<8:=by rw[n3] at h1;exact h1
 have e1:=q0g (xs++[(x:Int)]) hn
 have e2:=q0g xs hn
 rw[k0 _ h1] at e1
 rw[k0 _ (by rw[n3];exact hn)] at e2
 rw[e1,List.getElem_set,List.count_append,List.count_singleton]
 by_cases e:x=n
 ·subst e;rw[if_pos rfl,q0g xs hx];simp
 ·rw[if_neg e,e2]
  have:¬ (x:Int)=(n:Int):=by omega
  simp[this]
theorem q8v{b:Int}:∀ {xs:List Int},xs≠[]→(maxL xs≤b↔∀ x∈xs,x≤b)
 |[],h=>absurd rfl h
 |y::r,_=>by
  have key:∀ (r:List Int) (y:Int),r.foldl Max.max y≤b↔∀ x∈y::r,x≤b:=by
   intro r
   induction r with
   |nil=>intro y;simp
   |cons z r ih=>
    intro y
    rw[List.foldl_cons,ih]
    simp only[List.forall_mem_cons]
    constructor
    ·rintro⟨h1,h2⟩;exact⟨by omega,by omega,h2⟩
    ·rintro⟨h1,h2,h3⟩;exact⟨by omega,h3⟩
  rw[maxL];exact key r y
theorem q45{α:Type}[BEq α][LawfulBEq α]:∀ {xs:List α},(∀ a,xs.count a≤1)↔xs.Nodup
 |[]=>by simp
 |x::r=>by
  rw[List.nodup_cons,← q45]
  constructor
  ·intro h
   refine⟨fun hx=>?_,fun a=>?_⟩
   ·have h1:=h x
    rw[List.count_cons_self] at h1
    have:=List.count_pos_iff.2 hx
    omega
   ·have h1:=h a
    rw[List.count_cons] at h1
    omega
  ·rintro⟨h1,h2⟩ a
   rw[List.count_cons]
   have:=h2 a
   by_cases e:x=a
   ·subst e
    rw[List.count_eq_zero.2 h1];simp
   ·have:(x==a)=false:=by simpa using e
    rw[this];simpa using h2 a
theorem seen_one{N:Nat}{xs:List Int}(hN:N≤8)(hx:∀ x∈xs,0≤x∧x<(N:Int))(h1:1≤xs.length):maxL (seenR xs)=1↔xs.Nodup:=by
 have hne:seenR xs≠[]:=by intro e;have:=congrArg List.length e;rw[n3] at this;simp at this
 have hc:∀ a,1<xs.count a→∃ k:Nat,k<8∧a=(k:Int):=fun a ha=>by
  have:=hx a (List.count_pos_iff.1 (by omega))
  exact⟨a.toNat,by omega,by omega⟩
 have hge:1≤maxL (seenR xs):=by
  obtain⟨y,r,rfl⟩:=List.exists_cons_of_length_pos (by omega:0<xs.length)
  have hy:=hx y List.mem_cons_self
  have h2:=(q8v (b:=maxL (seenR (y::r))) hne).1 (Int.le_refl _) ((seenR (y::r)).getD y.toNat 0) (by rw[k0 _ (by rw[n3];omega)];exact List.getElem_mem _)
  rw[q0g _ (by omega:y.toNat<8),show((y.toNat:Nat):Int)=y by omega] at h2
  have:0<(y::r).count y:=List.count_pos_iff.2 List.mem_cons_self
  omega
 rw[← q45]
 constructor
 ·intro h a
  refine Nat.le_of_not_lt fun ha=>?_
  obtain⟨k,hk,rfl⟩:=hc a ha
  have h2:=(q8v (b:=1) hne).1 (by omega) ((seenR xs).getD k 0) (by rw[k0 _ (by rw[n3];exact hk)];exact List.getElem_mem _)
  rw[q0g _ hk] at h2
  omega
 ·intro h
  have:maxL (seenR xs)≤1:=(q8v hne).2 fun x hx=>by
   obtain⟨k,hk,rfl⟩:=List.mem_map.1 hx
   have:=h (k:Int)
   omega
  omega
abbrev natL(xs:List Int):List Nat:=xs.map Int.toNat
theorem iL_nat{xs:List Int}(h:∀ x∈xs,0≤x):iL (natL xs)=xs:=by
 unfold iL natL
 rw[List.map_map]
 conv=>rhs;rw[← List.map_id xs]
 refine List.map_congr_left fun x hx=>?_
 have:=h x hx
 show((x.toNat:Nat):Int)=x
 omega
theorem nat_iL(o:List Nat):natL (iL o)=o:=by simp[Function.comp_def]
theorem Ord.iL{N:Nat}{xs:List Int}(h:Ord N xs):Go.Proofs.YtjfafggkkjgpeaaGreatDoor.iL (natL xs)=xs:=iL_nat fun x hx=>(h.2.1 x hx).1
theorem Ord.lt{N:Nat}{xs:List Int}(h:Ord N xs):∀ n∈natL xs,n<N:=fun n hn=>by
 obtain⟨x,hx,rfl⟩:=List.mem_map.1 hn
 have:=h.2.1 x hx
 omega
theorem Ord.len{N:Nat}{xs:List Int}(h:Ord N xs):(natL xs).length=N:=by rw[List.length_map];exact h.1
theorem Ord.nodup{N:Nat}{xs:List Int}(h:Ord N xs):(natL xs).Nodup:=by
 have:=h.2.2
 rw[← h.iL] at this
 unfold List.Nodup at this ⊢
 rw[List.pairwise_map] at this
 exact this.imp fun h e=>h (by rw[e])
abbrev vR(r:List Int):AV:=.val (.arr 8 (.int .i64)) r
theorem fn128(P:Int)(l:List Pt)(xs:List Int):Ox.Fn Tryz.prog 128 (.acons (vS P l) (.acons (vL xs) .anil)) (·=vB (decide (Ord l.length xs))):=by
 refine Ox.Fn.intro xok Tryz.func128 rfl Tryz.call128 (Nat.le_of_ble_eq_true rfl) (fun E M0 up=>?_)
 refine z8 ?_
 refine JK.lenOf 1 rfl fun hlen=>?_
 replace hlen:xs.length≤9223372036854775807:=hlen.1
 refine JK.lenOf 0 rfl fun hlen2=>?_
 replace hlen2:l.length≤9223372036854775807:=hlen2.2.1.1
 (repeat (first|refine zs rfl ?_|refine zg rfl rfl rfl ?_|refine zd ?_|refine q8 ?_|refine q7 ?_))
 refine z5 rfl (fun hc=>?_) (fun hc=>?_)
 ·(simp only[↓cdL] at hc;try simp only[Ty.dflt,Int.toNat_natCast] at hc)
  (repeat (first|refine zs rfl ?_|refine zg rfl rfl rfl ?_|refine zd ?_|refine q8 ?_|refine q7 ?_))
  refine⟨.inl rfl,_,_,rfl,trivial,?_⟩
  rw[decide_eq_false (fun h:Ord l.length xs=>by have:=h.1;omega)]
 ·(simp only[↓cdL] at hc;try simp only[Ty.dflt,Int.toNat_natCast] at hc)
  (repeat (first|refine zs rfl ?_|refine zg rfl rfl rfl ?_|refine zd ?_|refine q8 ?_|refine q7 ?_))
  refine JK.loop (fun i:Nat=>⟨[(1,vL xs),(2,.lf (.optr 0 [])),(5,vI (i:Int))],[(0,.cell seT (vS P l))],1⟩) (fun i=>i≤xs.length∧(∀ x∈xs.take i,0≤x∧x<(l.length:Int))∧(xs.take i).Nodup) (fun i=>xs.length-i) 0 ⟨Nat.zero_le _,fun x hx=>by simp at hx,by simp⟩ (by(exact z6 (by conv=>lhs;reduce))) fun i ⟨hi,hall,hnd⟩=>?_
  (repeat (first|refine zs rfl ?_|refine zg rfl rfl rfl ?_|refine zd ?_|refine q8 ?_|refine q7 ?_))
  refine z5 rfl (fun hd=>?_) (fun hd=>?_)
  ·(simp only[↓cdL] at hd;try simp only[Ty.dflt,Int.toNat_natCast] at hd)
   have hi':i<xs.length:=by omega
   have hmem:xs.getD i 0∈xs:=by rw[k0 xs hi'];exact List.getElem_mem hi'
   have c66:=fn202 P l (xs.getD i 0)
   (repeat (first|refine zs rfl ?_|refine zg rfl rfl rfl ?_|refine zd ?_|refine q8 ?_|refine q7 ?_|refine zc rfl (c66) rfl rfl ?_|refine ze rfl (c66) rfl ?_|refine zk rfl rfl (fun _=>c66) rfl rfl ?_))
   refine z5 rfl (fun he=>?_) (fun he=>?_)
   ·(simp only[↓cdL] at he;try simp only[Ty.dflt,Int.toNat_natCast] at he)
    (repeat (first|refine zs rfl ?_|refine zg rfl rfl rfl ?_|refine zd ?_|refine q8 ?_|refine q7 ?_))
    refine⟨.inl rfl,_,_,rfl,trivial,?_⟩
    have:¬ Ord l.length xs:=fun h=>he (h.2.1 _ hmem)
    rw[decide_eq_false this]
   ·(simp only[↓cdL] at he;try simp only[Ty.dflt,Int.toNat_natCast] at he)
    have hd':0≤xs.getD i 0∧xs.getD i 0<(l.length:Int):=he
    (repeat (first|refine zs rfl ?_|refine zg rfl rfl rfl ?_|refine zd ?_|refine q8 ?_|refine q7 ?_))
    refine JK.loop (fun j:Nat=>⟨[(1,vL xs),(2,.lf (.optr 0 [])),(5,vI (i:Int)),(6,vI (j:Int))],[(0,.cell seT (vS P l))],1⟩) (fun j=>j≤i∧xs.getD i 0∉xs.take j) (fun j=>i-j) 0 ⟨Nat.zero_le _,by simp⟩ (by(exact z6 (by conv=>lhs;reduce))) fun j ⟨hj,hno⟩=>?_
    (repeat (first|refine zs rfl ?_|refine zg rfl rfl rfl ?_|refine zd ?_|refine q8 ?_|refine q7 ?_))
    refine z5 rfl (fun hf=>?_) (fun hf=>?_)
    ·(simp only[↓cdL] at hf;try simp only[Ty.dflt,Int.toNat_natCast] at hf)
     have hj':j<xs.length:=by omega
     (repeat (first|refine zs rfl ?_|refine zg rfl rfl rfl ?_|refine zd ?_|refine q8 ?_|refine q7 ?_))
     refine z5 rfl (fun hg=>?_) (fun hg=>?_)
     ·(simp only[↓cdL] at hg;try simp only[Ty.dflt,Int.toNat_natCast] at hg)
      have hg':xs.getD j 0=xs.getD i 0:=hg
      (repeat (first|refine zs rfl ?_|refine zg rfl rfl rfl ?_|refine zd ?_|refine q8 ?_|refine q7 ?_))
      refine⟨.inl rfl,_,_,rfl,trivial,?_⟩
      have:¬ Ord l.length xs:=fun h=>by
       rw[k0 xs hj',k0 xs hi'] at hg'
       have:=List.pairwise_iff_getElem.1 h.2.2 j i hj' hi' (by omega)
       exact this hg'
      rw[decide_eq_false this]
     ·(simp only[↓cdL] at hg;try simp only[Ty.dflt,Int.toNat_natCast] at hg)
      have hg':xs.getD j 0≠xs.getD i 0:=hg
      (repeat (first|refine zs rfl ?_|refine zg rfl rfl rfl ?_|refine zd ?_|refine q8 ?_|refine q7 ?_))
      refine⟨j+1,by(exact z6 (by conv=>lhs;reduce)),⟨by omega,?_⟩,by omega⟩
      rw[q01 xs hj' 0,List.mem_append,List.mem_singleton]
      rintro(h|h)
      ·exact hno h
      ·exact hg' h.symm
    ·(simp only[↓cdL] at hf;try simp only[Ty.dflt,Int.toNat_natCast] at hf)
     have:j=i:=by omega
     subst this
     (repeat (first|refine zs rfl ?_|refine zg rfl rfl rfl ?_|refine zd ?_|refine q8 ?_|refine q7 ?_))
     refine⟨j+1,by(exact z6 (by conv=>lhs;reduce)),⟨by omega,?_,?_⟩,by omega⟩
     ·intro y hy
      rw[q01 xs hi' 0] at hy
      rcases List.mem_append.1 hy with hy|hy
      ·exact hall y hy
      ·rw[List.mem_singleton.1 hy];exact hd'
     ·rw[q01 xs hi' 0,List.nodup_append]
      refine⟨hnd,by simp,fun a ha b hb e=>?_⟩
      rw[List.mem_singleton.1 hb] at e
      rw[e] at ha
      exact hno ha
  ·(simp only[↓cdL] at hd;try simp only[Ty.dflt,Int.toNat_natCast] at hd)
   have he:i=xs.length:=by omega
   rw[he,List.take_length] at hall hnd
   (repeat (first|refine zs rfl ?_|refine zg rfl rfl rfl ?_|refine zd ?_|refine q8 ?_|refine q7 ?_))
   refine⟨.inl rfl,_,_,rfl,trivial,?_⟩
   have ho:Ord l.length xs:=⟨by omega,hall,hnd⟩
   rw[decide_eq_true ho]
def ordE(P:Int)(l:List Pt)(xs:List Int):Int:=if seE P l≠0 then seE P l else if Ord l.length xs then 0 else 15
theorem q4f{P:Int}{l:List Pt}{xs:List Int}:ordE P l xs=0↔seE P l=0∧Ord l.length xs:=by
 unfold ordE
 split
 ·rename_i h;exact⟨fun h'=>absurd h' h,fun h'=>absurd h'.1 h⟩
 ·rename_i h
  split
  ·rename_i h';exact⟨fun _=>⟨by omega,h'⟩,fun _=>rfl⟩
  ·rename_i h';exact⟨fun e=>by omega,fun e=>absurd e.2 h'⟩
theorem seen_le{N:Nat}{xs:List Int}(hN:N≤8)(hx:∀ x∈xs,0≤x∧x<(N:Int))(h1:1≤xs.length):¬ maxL (seenR xs)>1↔xs.Nodup:=by
 rw[← seen_one hN hx h1]
 have hne:seenR xs≠[]:=by intro e;have:=congrArg List.length e;rw[n3] at this;simp at this
 have hge:1≤maxL (seenR xs):=by
  obtain⟨y,r,rfl⟩:=List.exists_cons_of_length_pos (by omega:0<xs.length)
  have hy:=hx y List.mem_cons_self
  have h2:=(q8v (b:=maxL (seenR (y::r))) hne).1 (Int.le_refl _) ((seenR (y::r)).getD y.toNat 0) (by rw[k0 _ (by rw[n3];omega)];exact List.getElem_mem _)
  rw[q0g _ (by omega:y.toNat<8),show((y.toNat:Nat):Int)=y by omega] at h2
  have:0<(y::r).count y:=List.count_pos_iff.2 List.mem_cons_self
  omega
 omega
abbrev vOr(P:Int)(l:List Pt)(xs:List Int):AV:=.tup (.acons (.val (.ptr shT) (if ordE P l xs=0 then some (shV P l) else none)) (.acons (vI (ordE P l xs)) .anil))
set_option maxHeartbeats 2000000 in
theorem fn24(P:Int)(l:List Pt)(xs:List Int):Ox.Fn Tryz.prog 24 (.acons (vS P l) (.acons (vL xs) .anil)) (·=vOr P l xs):=by
 refine Ox.Fn.intro xok Tryz.func24 rfl Tryz.call24 (Nat.le_of_ble_eq_true rfl) (fun E M0 up=>?_)
 refine z8 ?_
 refine JK.lenOf 1 rfl fun hlen=>?_
 replace hlen:xs.length≤9223372036854775807:=hlen.1
 have c61:=fn32 P l
 unfold vOp at c61
 by_cases hz:seE P l=0
 ·obtain⟨hP,h1,h8,hl⟩:=q1h.1 hz
  rw[if_pos hz,hz] at c61
  have hno:∀ {e:Int},¬ Ord l.length xs→e=15→(AV.tup (.acons (.val (.ptr shT) none) (.acons (vI e) .anil)))=vOr P l xs:=fun {e} h he=>by
   have h2:ordE P l xs=15:=by unfold ordE;rw[if_neg (by omega),if_neg h]
   unfold vOr;rw[h2,if_neg (by decide),he]
  have hyes:Ord l.length xs→(AV.tup (.acons (.val (.ptr shT) (some (shV P l))) (.acons (vI 0) .anil)))=vOr P l xs:=fun h=>by
   have h2:ordE P l xs=0:=q4f.2 ⟨hz,h⟩
   unfold vOr;rw[h2,if_pos rfl]
  generalize vOr P l xs=R at hno hyes ⊢
  (repeat (first|refine zs rfl ?_|refine zg rfl rfl rfl ?_|refine zd ?_|refine q8 ?_|refine q7 ?_|refine zc rfl (c61) rfl rfl ?_|refine ze rfl (c61) rfl ?_|refine zk rfl rfl (fun _=>c61) rfl rfl ?_))
  refine z5 rfl (fun h=>absurd h (by decide)) (fun _=>?_)
  (repeat (first|refine zs rfl ?_|refine zg rfl rfl rfl ?_|refine zd ?_|refine q8 ?_|refine q7 ?_))
  refine JK.loop (fun i:Nat=>⟨[(1,vL xs),(2,.lf (.optr 0 [])),(6,vH P l),(8,.lf (.optr 1 [])),(20,vL xs),(21,vI xs.length),(22,vI (i:Int))],[(0,.cell seT (vS P l)),(1,.cell (.arr 8 (.int .i64)) (vR (seenR (xs.take i))))],2⟩)
   (fun i=>i≤xs.length∧∀ x∈xs.take i,0≤x∧x<(l.length:Int)) (fun i=>xs.length-i) 0 ⟨Nat.zero_le _,fun x hx=>by simp at hx⟩ ?_ fun i ⟨hi,hall⟩=>?_
  ·have e:seenR (xs.take 0)=List.replicate 8 0:=rfl
   rw[e]
   (exact z6 (by conv=>lhs;reduce))
  have hsl:=n3 (xs.take i)
  have hsn:∀ x:Nat,x<8→i<xs.length→xs.getD i 0=(x:Int)→seenR (xs.take (i+1))=(seenR (xs.take i)).set x ((seenR (xs.take i)).getD x 0+1):=fun x hx hlt e=>by
   rw[q01 xs hlt 0,e];exact z42 _ hx
  have hbd:∀ x:Nat,x<8→0≤(seenR (xs.take i)).getD x 0∧(seenR (xs.take i)).getD x 0≤(i:Int):=fun x hx=>by
   rw[q0g _ hx]
   have:=List.count_le_length (a:=(x:Int)) (l:=xs.take i)
   rw[List.length_take] at this
   omega
  have hfin:i=xs.length→seenR (xs.take i)=seenR xs:=fun e=>by rw[e,List.take_length]
  generalize seenR (xs.take i)=R at hsl hsn hbd hfin ⊢
  (repeat (first|refine zs rfl ?_|refine zg rfl rfl rfl ?_|refine zd ?_|refine q8 ?_|refine q7 ?_))
  refine z5 rfl (fun hc=>?_) (fun hc=>?_)
  ·(simp only[↓cdL] at hc;try simp only[Ty.dflt,Int.toNat_natCast] at hc)
   have hi':i<xs.length:=by omega
   have hmem:xs.getD i 0∈xs:=by rw[k0 xs hi'];exact List.getElem_mem hi'
   have c64:=fn41 P l (xs.getD i 0)
   (repeat (first|refine zs rfl ?_|refine zg rfl rfl rfl ?_|refine zd ?_|refine q8 ?_|refine q7 ?_|refine zc rfl (c64) rfl rfl ?_|refine ze rfl (c64) rfl ?_|refine zk rfl rfl (fun _=>c64) rfl rfl ?_))
   refine z5 rfl (fun hd=>?_) (fun hd=>?_)
   ·(simp only[↓cdL] at hd;try simp only[Ty.dflt,Int.toNat_natCast] at hd)
    (repeat (first|refine zs rfl ?_|refine zg rfl rfl rfl ?_|refine zd ?_|refine q8 ?_|refine q7 ?_))
    refine⟨.inl rfl,_,_,rfl,trivial,?_⟩
    exact hno (fun h=>hd (h.2.1 _ hmem)) rfl
   ·(simp only[↓cdL] at hd;try simp only[Ty.dflt,Int.toNat_natCast] at hd)
    have hd':0≤xs.getD i 0∧xs.getD i 0<(l.length:Int):=hd
    obtain⟨x,hx⟩:∃ x:Nat,xs.getD i 0=(x:Int):=⟨(xs.getD i 0).toNat,by omega⟩
    have hsn':=hsn (xs.getD i 0).toNat (by omega) hi' (by omega)
    have hb':=hbd (xs.getD i 0).toNat (by omega)
    (repeat (first|refine zs rfl ?_|refine zg rfl rfl rfl ?_|refine zd ?_|refine q8 ?_|refine q7 ?_))
    refine⟨i+1,?_,⟨by omega,fun y hy=>?_⟩,by omega⟩
    ·rw[hsn'];(exact z6 (by conv=>lhs;reduce))
    ·rw[q01 xs hi' 0] at hy
     rcases List.mem_append.1 hy with hy|hy
     ·exact hall y hy
     ·rw[List.mem_singleton.1 hy];exact hd'
  ·(simp only[↓cdL] at hc;try simp only[Ty.dflt,Int.toNat_natCast] at hc)
   have he:i=xs.length:=by omega
   rw[hfin he]
   rw[he,List.take_length] at hall
   have h92:=fn59 (seenR xs) (by rw[n3];omega)
   have h92b:List.take 8 (seenR xs)=seenR xs:=by rw[List.take_of_length_le (by rw[n3];exact Nat.le_refl _)]
   rw[← h92b] at h92
   clear hbd hsn hfin hsl
   by_cases hll:xs.length=l.length
   ·have hso:=seen_le (N:=l.length) h8 hall (by omega)
    rw[h92b] at h92
    (repeat (first|refine zt rfl (by simp[wantB,hll]) ?_|refine zs rfl ?_|refine zc rfl h92 rfl rfl ?_))
    have hb:((xs.length:Int) != (l.length:Int))=false:=bne_eq_false_iff_eq.2 (by omega)
    refine z5 rfl (fun hg=>?_) (fun hg=>?_)
    ·have hg2:(bif ((xs.length:Int) != (l.length:Int)) then true else decide (maxL (seenR xs)>1))=true:=hg
     rw[hb] at hg2
     have hg3:=of_decide_eq_true hg2
     (repeat (first|refine zs rfl ?_|refine zg rfl rfl rfl ?_|refine zd ?_|refine q8 ?_|refine q7 ?_))
     refine⟨.inl rfl,_,_,rfl,trivial,?_⟩
     exact hno (fun h=>hso.2 h.2.2 hg3) rfl
    ·have hg2:(bif ((xs.length:Int) != (l.length:Int)) then true else decide (maxL (seenR xs)>1))=false:=hg
     rw[hb] at hg2
     have hg3:=of_decide_eq_false hg2
     (repeat (first|refine zs rfl ?_|refine zg rfl rfl rfl ?_|refine zd ?_|refine q8 ?_|refine q7 ?_))
     refine⟨.inl rfl,_,_,rfl,trivial,?_⟩
     exact hyes ⟨hll,hall,hso.1 hg3⟩
   ·have hb:((xs.length:Int) != (l.length:Int))=true:=bne_iff_ne.2 (by omega)
    (repeat (first|refine zfl rfl (by simp[wantB];omega) rfl ?_|refine zs rfl ?_|refine z4y rfl hb rfl rfl trivial trivial ?_))
    refine z5 rfl (fun _=>?_) (fun hg=>absurd hg (by simp))
    (repeat (first|refine zs rfl ?_|refine zg rfl rfl rfl ?_|refine zd ?_|refine q8 ?_|refine q7 ?_))
    refine⟨.inl rfl,_,_,rfl,trivial,?_⟩
    exact hno (fun h=>hll h.1) rfl
 ·rw[if_neg hz] at c61
  (repeat (first|refine zs rfl ?_|refine zg rfl rfl rfl ?_|refine zd ?_|refine q8 ?_|refine q7 ?_|refine zc rfl (c61) rfl rfl ?_|refine ze rfl (c61) rfl ?_|refine zk rfl rfl (fun _=>c61) rfl rfl ?_))
  refine z5 rfl (fun hc=>?_) (fun hc=>?_)
  ·(repeat (first|refine zs rfl ?_|refine zg rfl rfl rfl ?_|refine zd ?_|refine q8 ?_|refine q7 ?_))
   refine⟨.inl rfl,_,_,rfl,trivial,?_⟩
   have h2:ordE P l xs=seE P l:=by unfold ordE;rw[if_pos hz]
   unfold vOr;rw[h2,if_neg hz]
  ·(simp only[↓cdL] at hc;try simp only[Ty.dflt,Int.toNat_natCast] at hc)
   omega
end Go.Proofs.YtjfafggkkjgpeaaGreatDoor
namespace Go.Proofs.YtjfafggkkjgpeaaGreatDoor
open Go Go.RowKit Ox Ox.Sh Ox.Se
attribute [local irreducible] JC JL JK JW
attribute [local irreducible] ovA stA pkV
def nx1(o:List Nat)(i:Nat):Nat:=o.getD ((i+1) % o.length) 0
def stp(P:Int)(l:List Pt)(o:List Nat)(i:Nat):Int:=lO l (o.getD i 0)+gp P l (o.getD i 0) (nx1 o i)
def totK(P:Int)(l:List Pt)(o:List Nat)(k:Nat):Int:=sm (stp P l o) (List.range k)
theorem q5z(P:Int)(l:List Pt)(o:List Nat)(k:Nat):totK P l o (k+1)=totK P l o k+stp P l o k:=n5 _ _
theorem q8i(f:Nat→Int):∀ k:Nat,sm f (List.range (k+1))=f 0+sm (fun i=>f (i+1)) (List.range k)
 |0=>by simp[sm]
 |k+1=>by rw[n5,q8i f k,n5];omega
theorem z57{P:Int}{l:List Pt}:∀ (s:List Nat) (h:Nat),wst P l h s=sm (fun i=>gp P l ((h::s).getD i 0) ((h::s).getD (i+1) 0)) (List.range s.length)
 |[],_=>rfl
 |j::r,h=>by
  rw[wst,z57 r j,List.length_cons,q8i]
  rfl
theorem sm_idx(f:Nat→Int):∀ o:List Nat,sm f o=sm (fun i=>f (o.getD i 0)) (List.range o.length)
 |[]=>rfl
 |h::t=>by
  rw[y5,sm_idx f t,List.length_cons,q8i]
  rfl
theorem totK_tot{P:Int}{l:List Pt}(h:Nat)(t:List Nat):totK P l (h::t) (h::t).length=tot P l h t:=by
 unfold totK tot
 rw[z57,sm_idx (lO l)]
 have e:(t++[h]).length=(h::t).length:=by simp
 rw[e,← q91]
 refine q2x fun i hi=>?_
 have hi':=List.mem_range.1 hi
 unfold stp nx1
 congr 2
 ·have:(h::(t++[h])).getD i 0=(h::t).getD i 0:=by
   have e2:h::(t++[h])=(h::t)++[h]:=rfl
   rw[e2,List.getD_eq_getElem?_getD,List.getD_eq_getElem?_getD,List.getElem?_append_left hi']
  rw[this]
 ·have e2:h::(t++[h])=(h::t)++[h]:=rfl
  rw[e2]
  by_cases hl:i+1<(h::t).length
  ·rw[Nat.mod_eq_of_lt hl,List.getD_eq_getElem?_getD,List.getD_eq_getElem?_getD,List.getElem?_append_left hl]
  ·have e3:i+1=(h::t).length:=by omega
   rw[e3,Nat.mod_self]
   have e4:((h::t)++[h]).getD (h::t).length 0=h:=by
    rw[List.getD_eq_getElem?_getD,List.getElem?_append_right (Nat.le_refl _),Nat.sub_self];rfl
   rw[e4];rfl
theorem rdL_eq{P:Int}{l:List Pt}{o:List Nat}(hne:o≠[]):rdL P l o=totK P l o o.length / P:=by
 cases o with
 |nil=>exact absurd rfl hne
 |cons h t=>rw[totK_tot];rfl
theorem nx1_lt{N:Nat}{o:List Nat}(ho:∀ n∈o,n<N){i:Nat}(hi:i<o.length):nx1 o i<N:=by
 have:(i+1) % o.length<o.length:=Nat.mod_lt _ (by omega)
 unfold nx1
 rw[k0 o this];exact ho _ (List.getElem_mem this)
theorem q6o{N:Nat}{o:List Nat}(ho:∀ n∈o,n<N){i:Nat}(hi:i<o.length):o.getD i 0<N:=by
 rw[k0 o hi];exact ho _ (List.getElem_mem hi)
theorem z3s(o:List Nat)(i:Nat):((nx1 o i:Nat):Int)=(iL o).getD (((i:Int)+1) % ((iL o).length:Int)).toNat 0:=by
 rw[q6l,q2t]
 unfold nx1
 have:(((i:Int)+1) % (o.length:Int)).toNat=(i+1) % o.length:=by
  have e:((i:Int)+1) % (o.length:Int)=(((i+1) % o.length:Nat):Int):=by push_cast;rfl
  rw[e,Int.toNat_natCast]
 rw[this]
theorem stp_bd{P:Int}{l:List Pt}(hP:1≤P∧P≤1000)(hl:okP P l){o:List Nat}(ho:∀ n∈o,n<l.length){i:Nat}(hi:i<o.length):0≤stp P l o i∧stp P l o i≤11000:=by
 have h1:=(hl.get (q6o ho hi)).2
 have h2:=q7l (l:=l) hP.1 (o.getD i 0) (nx1 o i)
 unfold stp
 omega
theorem z1p{P:Int}{l:List Pt}(hP:1≤P∧P≤1000)(hl:okP P l){o:List Nat}(ho:∀ n∈o,n<l.length):∀ k:Nat,k≤o.length→0≤totK P l o k∧totK P l o k≤11000*k
 |0,_=>by have:totK P l o 0=0:=rfl;omega
 |k+1,h=>by
  have h1:=z1p hP hl ho k (by omega)
  have h2:=stp_bd hP hl ho (i:=k) (by omega)
  rw[q5z]
  push_cast
  omega
section
variable {P:Int}{l:List Pt}{o:List Nat}
theorem mod_ix{i n:Nat}(h:i<n):0≤((i:Int)+1) % (n:Int)∧((i:Int)+1) % (n:Int)<(n:Int):=⟨Int.emod_nonneg _ (by omega),Int.emod_lt_of_pos _ (by omega)⟩
end
set_option maxHeartbeats 1000000 in
theorem fn129(P:Int)(l:List Pt)(o:List Nat)(hz:seE P l=0)(ho:∀ n∈o,n<l.length)(hol:o.length≤1000):Ox.Fn Tryz.prog 129 (.acons (vS P l) (.acons (vL (iL o)) .anil)) (·=vI (totK P l o o.length / P)):=by
 obtain⟨hP,h1,h8,hl⟩:=q1h.1 hz
 refine Ox.Fn.intro xok Tryz.func129 rfl Tryz.call129 (Nat.le_of_ble_eq_true rfl) (fun E M0 up=>?_)
 refine z8 ?_
 have hil:=q2t o
 (repeat (first|refine zs rfl ?_|refine zg rfl rfl rfl ?_|refine zd ?_|refine q8 ?_|refine q7 ?_))
 refine JK.loop (fun i:Nat=>⟨[(1,vL (iL o)),(2,.lf (.optr 0 [])),(5,vI (totK P l o i)),(6,vI (i:Int))],[(0,.cell seT (vS P l))],1⟩) (fun i=>i≤o.length) (fun i=>o.length-i) 0 (Nat.zero_le _) (by(exact z6 (by conv=>lhs;reduce))) fun i hi=>?_
 have hb:=z1p hP hl ho i hi
 have hs:totK P l o (i+1)=totK P l o i+(lO l (o.getD i 0)+gp P l (o.getD i 0) (nx1 o i)):=q5z P l o i
 have hfin:i=o.length→totK P l o i=totK P l o o.length:=fun e=>by rw[e]
 generalize totK P l o i=S at hb hs hfin ⊢
 have e1:=q6l o i
 have e2:=z3s o i
 have c73:=fun h=>fn203 P l (o.getD i 0) (nx1 o i) hz (q6o ho h) (nx1_lt ho h)
 have hgb:=q7l (l:=l) hP.1 (o.getD i 0) (nx1 o i)
 have hmi:=fun h=>mod_ix (i:=i) (n:=o.length) h
 rw[← hil] at hmi
 have hgl:i<o.length→0≤(iL o).getD i 0∧(iL o).getD i 0<(l.length:Int):=fun h=>by rw[e1];have:=q6o ho h;omega
 have hlo:i<o.length→(1:Int)≤lO l (o.getD i 0)∧lO l (o.getD i 0)≤10000:=fun h=>(hl.get (q6o ho h)).2
 have hle:lO l (o.getD i 0)=(l.getD ((iL o).getD i 0).toNat (0,0,())).2.1:=by rw[e1,Int.toNat_natCast];rfl
 rw[← e1,e2] at c73
 generalize gp P l (o.getD i 0) (nx1 o i)=g at c73 hs hgb
 rw[hle] at hs hlo
 generalize iL o=X at *
 (repeat (first|refine zs rfl ?_|refine zg rfl rfl rfl ?_|refine zd ?_|refine q8 ?_|refine q7 ?_))
 refine z5 rfl (fun hc=>?_) (fun hc=>?_)
 ·(simp only[↓cdL] at hc;try simp only[Ty.dflt,Int.toNat_natCast] at hc)
  have hi':i<o.length:=by omega
  replace c73:=c73 hi'
  replace hmi:=hmi (by omega)
  replace hgl:=hgl hi'
  replace hlo:=hlo hi'
  (repeat (first|refine zs rfl ?_|refine zg rfl rfl rfl ?_|refine zd ?_|refine q8 ?_|refine q7 ?_|refine zc rfl (c73) rfl rfl ?_|refine ze rfl (c73) rfl ?_|refine zk rfl rfl (fun _=>c73) rfl rfl ?_))
  refine⟨i+1,?_,by omega,by omega⟩
  rw[hs]
  (exact z6 (by conv=>lhs;reduce))
 ·(simp only[↓cdL] at hc;try simp only[Ty.dflt,Int.toNat_natCast] at hc)
  rw[hfin (by omega)] at hb ⊢
  have hq:0≤totK P l o o.length / P:=Int.ediv_nonneg hb.1 (by omega)
  (repeat (first|refine zs rfl ?_|refine zg rfl rfl rfl ?_|refine zd ?_|refine q8 ?_|refine q7 ?_))
  refine⟨.inl rfl,_,_,rfl,trivial,?_⟩
  rfl
set_option maxHeartbeats 1000000 in
theorem fn25(P:Int)(l:List Pt)(o:List Nat)(hz:seE P l=0)(ho:∀ n∈o,n<l.length)(hol:o.length≤1000):Ox.Fn Tryz.prog 25 (.acons (vH P l) (.acons (vL (iL o)) .anil)) (·=vI (totK P l o o.length / P)):=by
 obtain⟨hP,h1,h8,hl⟩:=q1h.1 hz
 refine Ox.Fn.intro xok Tryz.func25 rfl Tryz.call25 (Nat.le_of_ble_eq_true rfl) (fun E M0 up=>?_)
 refine z8 ?_
 have hil:=q2t o
 (repeat (first|refine zs rfl ?_|refine zg rfl rfl rfl ?_|refine zd ?_|refine q8 ?_|refine q7 ?_))
 refine JK.loop (fun i:Nat=>⟨[(0,vH P l),(1,vL (iL o)),(5,vI (totK P l o i)),(8,vL (iL o)),(9,vI (iL o).length),(10,vI (i:Int))],[],0⟩) (fun i=>i≤o.length) (fun i=>o.length-i) 0 (Nat.zero_le _) (by(exact z6 (by conv=>lhs;reduce))) fun i hi=>?_
 have hb:=z1p hP hl ho i hi
 have hs:totK P l o (i+1)=totK P l o i+(lO l (o.getD i 0)+gp P l (o.getD i 0) (nx1 o i)):=q5z P l o i
 have hfin:i=o.length→totK P l o i=totK P l o o.length:=fun e=>by rw[e]
 generalize totK P l o i=S at hb hs hfin ⊢
 have e1:=q6l o i
 have e2:=z3s o i
 have c65:=fun h=>fn26 P l (o.getD i 0) (nx1 o i) hP hl (q6o ho h) (nx1_lt ho h)
 have hgb:=q7l (l:=l) hP.1 (o.getD i 0) (nx1 o i)
 have hmi:=fun h=>mod_ix (i:=i) (n:=o.length) h
 rw[← hil] at hmi
 have hgl:i<o.length→0≤(iL o).getD i 0∧(iL o).getD i 0<(l.length:Int):=fun h=>by rw[e1];have:=q6o ho h;omega
 have hlo:i<o.length→(1:Int)≤lO l (o.getD i 0)∧lO l (o.getD i 0)≤10000:=fun h=>(hl.get (q6o ho h)).2
 have hle:lO l (o.getD i 0)=(l.getD ((iL o).getD i 0).toNat (0,0,())).2.1:=by rw[e1,Int.toNat_natCast];rfl
 rw[← e1,e2] at c65
 generalize gp P l (o.getD i 0) (nx1 o i)=g at c65 hs hgb
 rw[hle] at hs hlo
 generalize iL o=X at *
 (repeat (first|refine zs rfl ?_|refine zg rfl rfl rfl ?_|refine zd ?_|refine q8 ?_|refine q7 ?_))
 refine z5 rfl (fun hc=>?_) (fun hc=>?_)
 ·(simp only[↓cdL] at hc;try simp only[Ty.dflt,Int.toNat_natCast] at hc)
  have hi':i<o.length:=by omega
  replace c65:=c65 hi'
  replace hmi:=hmi (by omega)
  replace hgl:=hgl hi'
  replace hlo:=hlo hi'
  (repeat (first|refine zs rfl ?_|refine zg rfl rfl rfl ?_|refine zd ?_|refine q8 ?_|refine q7 ?_|refine zc rfl (c65) rfl rfl ?_|refine ze rfl (c65) rfl ?_|refine zk rfl rfl (fun _=>c65) rfl rfl ?_))
  refine⟨i+1,?_,by omega,by omega⟩
  rw[hs]
  (exact z6 (by conv=>lhs;reduce))
 ·(simp only[↓cdL] at hc;try simp only[Ty.dflt,Int.toNat_natCast] at hc)
  rw[hfin (by omega)] at hb ⊢
  have hq:0≤totK P l o o.length / P:=Int.ediv_nonneg hb.1 (by omega)
  (repeat (first|refine zs rfl ?_|refine zg rfl rfl rfl ?_|refine zd ?_|refine q8 ?_|refine q7 ?_))
  refine⟨.inl rfl,_,_,rfl,trivial,?_⟩
  rfl
def rdI(P:Int)(l:List Pt)(xs:List Int):Int:=if ordE P l xs=0 then rdL P l (natL xs) else 0
theorem rd_of{P:Int}{l:List Pt}{xs:List Int}(h:ordE P l xs=0):(∀ n∈natL xs,n<l.length)∧(natL xs).length≤8∧iL (natL xs)=xs∧rdI P l xs=totK P l (natL xs) (natL xs).length / P∧natL xs≠[]∧(natL xs).length=l.length∧(natL xs).Nodup:=by
 obtain⟨hz,ho⟩:=q4f.1 h
 obtain⟨hP,h1,h8,hl⟩:=q1h.1 hz
 have hlen:=ho.len
 have hne:natL xs≠[]:=fun e=>by rw[e] at hlen;simp at hlen;omega
 refine⟨ho.lt,by omega,ho.iL,?_,hne,hlen,ho.nodup⟩
 unfold rdI
 rw[if_pos h,rdL_eq hne]
theorem fn53(P:Int)(l:List Pt)(xs:List Int):Ox.Fn Tryz.prog 53 (.acons (vS P l) (.acons (vL xs) .anil)) (·=vT2 (rdI P l xs) (ordE P l xs)):=by
 refine Ox.Fn.intro xok Tryz.func53 rfl Tryz.call53 (Nat.le_of_ble_eq_true rfl) (fun E M0 up=>?_)
 refine z8 ?_
 have c22:=fn6 P l
 (repeat (first|refine zs rfl ?_|refine zg rfl rfl rfl ?_|refine zd ?_|refine q8 ?_|refine q7 ?_|refine zc rfl (c22) rfl rfl ?_|refine ze rfl (c22) rfl ?_|refine zk rfl rfl (fun _=>c22) rfl rfl ?_))
 refine z5 rfl (fun hc=>?_) (fun hc=>?_)
 ·(simp only[↓cdL] at hc;try simp only[Ty.dflt,Int.toNat_natCast] at hc)
  (repeat (first|refine zs rfl ?_|refine zg rfl rfl rfl ?_|refine zd ?_|refine q8 ?_|refine q7 ?_|refine zc rfl (c22) rfl rfl ?_|refine ze rfl (c22) rfl ?_|refine zk rfl rfl (fun _=>c22) rfl rfl ?_))
  refine⟨.inl rfl,_,_,rfl,trivial,?_⟩
  have h2:ordE P l xs=seE P l:=by unfold ordE;rw[if_pos hc]
  unfold rdI;rw[h2,if_neg hc]
 ·(simp only[↓cdL] at hc;try simp only[Ty.dflt,Int.toNat_natCast] at hc)
  have hz:seE P l=0:=by omega
  have c55:=fn128 P l xs
  (repeat (first|refine zs rfl ?_|refine zg rfl rfl rfl ?_|refine zd ?_|refine q8 ?_|refine q7 ?_|refine zc rfl (c55) rfl rfl ?_|refine ze rfl (c55) rfl ?_|refine zk rfl rfl (fun _=>c55) rfl rfl ?_))
  refine z5 rfl (fun hd=>?_) (fun hd=>?_)
  ·(simp only[↓cdL] at hd;try simp only[Ty.dflt,Int.toNat_natCast] at hd)
   (repeat (first|refine zs rfl ?_|refine zg rfl rfl rfl ?_|refine zd ?_|refine q8 ?_|refine q7 ?_))
   refine⟨.inl rfl,_,_,rfl,trivial,?_⟩
   have h2:ordE P l xs=15:=by unfold ordE;rw[if_neg (by omega),if_neg hd]
   unfold rdI;rw[h2,if_neg (by decide)]
  ·(simp only[↓cdL] at hd;try simp only[Ty.dflt,Int.toNat_natCast] at hd)
   have h2:ordE P l xs=0:=q4f.2 ⟨hz,hd⟩
   obtain⟨r1,r2,r3,r4,_⟩:=rd_of h2
   have c72:=fn129 P l (natL xs) hz r1 (by omega)
   rw[r3,← r4] at c72
   (repeat (first|refine zs rfl ?_|refine zg rfl rfl rfl ?_|refine zd ?_|refine q8 ?_|refine q7 ?_|refine zc rfl (c72) rfl rfl ?_|refine ze rfl (c72) rfl ?_|refine zk rfl rfl (fun _=>c72) rfl rfl ?_))
   refine⟨.inl rfl,_,_,rfl,trivial,?_⟩
   rw[h2]
theorem fn9(P:Int)(l:List Pt)(xs:List Int):Ox.Fn Tryz.prog 9 (.acons (vS P l) (.acons (vL xs) .anil)) (·=vT2 (rdI P l xs) (ordE P l xs)):=by
 refine Ox.Fn.intro xok Tryz.func9 rfl Tryz.call9 (Nat.le_of_ble_eq_true rfl) (fun E M0 up=>?_)
 refine z8 ?_
 have c70:=fn24 P l xs
 unfold vOr at c70
 by_cases h2:ordE P l xs=0
 ·have hz:=(q4f.1 h2).1
  obtain⟨r1,r2,r3,r4,_⟩:=rd_of h2
  have c71:=fn25 P l (natL xs) hz r1 (by omega)
  rw[r3,← r4] at c71
  rw[if_pos h2,h2] at c70
  (repeat (first|refine zs rfl ?_|refine zg rfl rfl rfl ?_|refine zd ?_|refine q8 ?_|refine q7 ?_|refine zc rfl (c70) rfl rfl ?_|refine ze rfl (c70) rfl ?_|refine zk rfl rfl (fun _=>c70) rfl rfl ?_|refine zc rfl (c71) rfl rfl ?_|refine ze rfl (c71) rfl ?_|refine zk rfl rfl (fun _=>c71) rfl rfl ?_))
  refine z5 rfl (fun h=>absurd h (by decide)) (fun _=>?_)
  (repeat (first|refine zs rfl ?_|refine zg rfl rfl rfl ?_|refine zd ?_|refine q8 ?_|refine q7 ?_|refine zc rfl (c71) rfl rfl ?_|refine ze rfl (c71) rfl ?_|refine zk rfl rfl (fun _=>c71) rfl rfl ?_))
  refine⟨.inl rfl,_,_,rfl,trivial,?_⟩
  rw[h2]
 ·rw[if_neg h2] at c70
  (repeat (first|refine zs rfl ?_|refine zg rfl rfl rfl ?_|refine zd ?_|refine q8 ?_|refine q7 ?_|refine zc rfl (c70) rfl rfl ?_|refine ze rfl (c70) rfl ?_|refine zk rfl rfl (fun _=>c70) rfl rfl ?_))
  refine z5 rfl (fun hc=>?_) (fun hc=>?_)
  ·(repeat (first|refine zs rfl ?_|refine zg rfl rfl rfl ?_|refine zd ?_|refine q8 ?_|refine q7 ?_))
   refine⟨.inl rfl,_,_,rfl,trivial,?_⟩
   unfold rdI;rw[if_neg h2]
  ·(simp only[↓cdL] at hc;try simp only[Ty.dflt,Int.toNat_natCast] at hc)
   omega
end Go.Proofs.YtjfafggkkjgpeaaGreatDoor
namespace Go.Proofs.YtjfafggkkjgpeaaGreatDoor
open Go Go.RowKit Ox Ox.Sh Ox.Se
attribute [local irreducible] JC JL JK JW
attribute [local irreducible] ovA stA pkV
abbrev vTL(xs:List Int)(b:Int):AV:=.tup (.acons (vL xs) (.acons (vI b) .anil))
end Go.Proofs.YtjfafggkkjgpeaaGreatDoor
namespace Ox
open Go Go.RowKit
variable {X:Ctx}{s:S}{QA:Exit→S→Prop}
theorem z5x{c:Code}{s:S}(m:Nat)(eid:TypeId)(e:Ty){t:Ty}{p b:AV}(hm:lk s.H m=some (.cell t (.mix p (.mix (.lf .nils) b))))(hcf:confB t (.mix p (.mix (.lf (.osl s.nx)) b))=true)(hp:∀ n,p.bd n)(hb:∀ n,b.bd n)
  (k:JC X c QA ⟨s.L,updH ((s.nx,.sl eid e [])::s.H) m (.cell t (.mix p (.mix (.lf (.osl s.nx)) b))),s.nx+1⟩):JC X c QA s:=fun M ρ a w h1 h2=>by
 have g1:=h1.ghost eid e
 have hr:=q4h ρ s.nx e
 have g2:REG X M (ρ.nilAt s.nx e) ⟨s.L,updH ((s.nx,.sl eid e [])::s.H) m (.cell t (.mix p (.mix (.lf (.osl s.nx)) b))),s.nx+1⟩ a:=by
  have:=h2.grow (H':=updH ((s.nx,.sl eid e [])::s.H) m (.cell t (.mix p (.mix (.lf (.osl s.nx)) b)))) (nx':=s.nx+1) (Mem.le_refl M) hr (Nat.le_succ _) (d9 M)
  exact this
 obtain⟨o1,o2,o3⟩:=h1.own m _ hm
 have hm':lk ((s.nx,HO.sl eid e [])::s.H) m=some (.cell t (.mix p (.mix (.lf .nils) b))):=by
  simp only[lk];rw[if_neg (by omega)];exact hm
 obtain⟨q1,q2,q3⟩:=g1.own m _ hm'
 refine k M _ a w (g1.upd hm' (q47 w _) rfl ⟨hp _,Nat.lt_succ_self _,hb _⟩ ?_) g2
 simp only[HO.ok] at q3 ⊢
 obtain⟨r1,r2,r3,c,ty,r4,r5⟩:=q3
 refine⟨r1,hcf,r3,c,ty,r4,?_⟩
 simp only[AV.rc,Leaf.at] at r5 ⊢
 obtain⟨c0,c3,h0,⟨c1,c2,⟨v,v1,v2,v3⟩,hc2,v4⟩,h5⟩:=r5
 simp only[Option.some.injEq] at v1
 subst v1
 exact⟨c0,c3,h0,⟨c1,c2,⟨_,by simp[Env.nilAt],rfl,v3⟩,hc2,v4⟩,h5⟩
theorem z5u{c:Code}{r:List Fr}{s:S}(m:Nat)(eid:TypeId)(e:Ty){t:Ty}{p b:AV}(hm:lk s.H m=some (.cell t (.mix p (.mix (.lf .nils) b))))(hcf:confB t (.mix p (.mix (.lf (.osl s.nx)) b))=true)(hp:∀ n,p.bd n)(hb:∀ n,b.bd n)
  (k:JK X (.code c::r) QA ⟨s.L,updH ((s.nx,.sl eid e [])::s.H) m (.cell t (.mix p (.mix (.lf (.osl s.nx)) b))),s.nx+1⟩):JK X (.code c::r) QA s:=z5x m eid e hm hcf hp hb k
end Ox
namespace Go.Proofs.YtjfafggkkjgpeaaGreatDoor
open Go Go.RowKit Ox Ox.Sh Ox.Se
attribute [local irreducible] JC JL JK JW
attribute [local irreducible] ovA stA pkV
abbrev vU(by_:List Int):AV:=.val (.slice (.int .u8)) by_
def kO(u:List Int)(n:Nat):Nat:=if u.length>0 then(u.getD (n % u.length) 0).toNat % (n+1) else n
def ordR(u:List Int):Nat→List Nat
 |0=>[]
 |n+1=>(ordR u n).take (kO u n)++[n]++(ordR u n).drop (kO u n)
theorem kO_le(u:List Int)(n:Nat):kO u n≤n:=by
 unfold kO
 split
 ·have:=Nat.mod_lt (u.getD (n % u.length) 0).toNat (show 0<n+1 by omega);omega
 ·exact Nat.le_refl n
theorem q56(u:List Int):∀ n,List.Perm (ordR u n) (List.range n)
 |0=>.nil
 |n+1=>by
  rw[ordR,List.range_succ,List.append_assoc,List.singleton_append]
  have h:=q56 u n
  have h2:List.Perm ((ordR u n).take (kO u n)++n::(ordR u n).drop (kO u n)) (n::((ordR u n).take (kO u n)++(ordR u n).drop (kO u n))):=List.perm_middle
  rw[List.take_append_drop] at h2
  refine h2.trans ?_
  refine(h.cons n).trans ?_
  have:=List.perm_append_comm (l₁:=[n]) (l₂:=List.range n)
  exact this
theorem ordR_len(u:List Int)(n:Nat):(ordR u n).length=n:=by rw[(q56 u n).length_eq,List.length_range]
theorem fn8(P:Int)(l:List Pt)(u:List Int)(h8:l.length≤1000)(hu:∀ x∈u,0≤x∧x≤255)(hul:u.length≤1000):Ox.Fn Tryz.prog 8 (.acons (vS P l) (.acons (vU u) .anil)) (·=vL (iL (ordR u l.length))):=by
 refine Ox.Fn.intro xok Tryz.func8 rfl Tryz.call8 (Nat.le_of_ble_eq_true rfl) (fun E M0 up=>?_)
 refine z8 ?_
 (repeat (first|refine zs rfl ?_|refine zg rfl rfl rfl ?_|refine zd ?_|refine q8 ?_|refine q7 ?_|refine zne eqT rfl rfl rfl ?_))
 refine JK.ghost 5 3 (.int .i64) rfl ?_
 refine JK.loop (fun i:Nat=>⟨[(1,vU u),(2,.lf (.optr 0 [])),(5,.lf (.osl 1)),(6,vI (i:Int))],[(0,.cell seT (vS P l)),(1,.sl 3 (.int .i64) (iL (ordR u i)))],2⟩)
  (fun i=>i≤l.length) (fun i=>l.length-i) 0 (Nat.zero_le _) (by(exact z6 (by conv=>lhs;reduce))) fun i hi=>?_
 have hlen:=ordR_len u i
 have hil:(iL (ordR u i)).length=i:=by rw[List.length_map];exact hlen
 have hk:=kO_le u i
 have hst:iL (ordR u (i+1))=(iL (ordR u i)).take (kO u i)++[(i:Int)]++(iL (ordR u i)).drop (kO u i):=by
  rw[ordR];simp
 have hkv:kO u i=if u.length>0 then(u.getD (i % u.length) 0).toNat % (i+1) else i:=rfl
 have hfin:i=l.length→iL (ordR u i)=iL (ordR u l.length):=fun e=>by rw[e]
 clear hlen
 generalize iL (ordR u i)=X at hil hst hfin ⊢
 (repeat (first|refine zs rfl ?_|refine zg rfl rfl rfl ?_|refine zd ?_|refine q8 ?_|refine q7 ?_|refine zne eqT rfl rfl rfl ?_))
 refine z5 rfl (fun hc=>?_) (fun hc=>?_)
 ·(simp only[↓cdL] at hc;try simp only[Ty.dflt,Int.toNat_natCast] at hc)
  (refine JK.fz [1] [1,2,5,6] rfl ?_)
  (repeat (first|refine zu rfl ?_|refine zg rfl rfl rfl ?_|refine zd ?_|refine q8 ?_|refine q7 ?_|refine zne eqT rfl rfl rfl ?_))
  refine JK.cut (fun _:Unit=>⟨[(1,vU u),(2,.lf (.optr 0 [])),(5,vL X),(6,vI (i:Int)),(7,vI (kO u i:Nat))],[(0,.cell seT (vS P l))],2⟩) (fun _=>True) ?_ (fun _ _=>?_)
  ·(repeat (first|refine zs rfl ?_|refine zg rfl rfl rfl ?_|refine zd ?_|refine q8 ?_|refine q7 ?_|refine zne eqT rfl rfl rfl ?_))
   refine z5 rfl (fun hd=>?_) (fun hd=>?_)
   ·(simp only[↓cdL] at hd;try simp only[Ty.dflt,Int.toNat_natCast] at hd)
    have hmc:(i:Int) % (u.length:Int)=((i % u.length:Nat):Int):=by push_cast;rfl
    have hml:=Nat.mod_lt i (show 0<u.length by omega)
    have hm1:0≤(i:Int) % (u.length:Int)∧(i:Int) % (u.length:Int)<(u.length:Int):=by rw[hmc];omega
    have hm2:0≤u.getD ((i:Int) % (u.length:Int)).toNat 0∧u.getD ((i:Int) % (u.length:Int)).toNat 0≤255:=hu _ (by rw[k0 u (by rw[hmc,Int.toNat_natCast];exact hml)];exact List.getElem_mem _)
    rw[if_pos (by omega)] at hkv
    have hx1:(X.length:Int)+1≠0:=by omega
    have hkI:((kO u i:Nat):Int)=u.getD ((i:Int) % (u.length:Int)).toNat 0 % ((X.length:Int)+1):=by
     rw[hkv,hil,hmc,Int.toNat_natCast]
     rw[hmc,Int.toNat_natCast] at hm2
     push_cast
     rw[Int.toNat_of_nonneg hm2.1]
    rw[hkI]
    (repeat (first|refine zs rfl ?_|refine zg rfl rfl rfl ?_|refine zd ?_|refine q8 ?_|refine q7 ?_|refine zne eqT rfl rfl rfl ?_))
    exact⟨(),by(exact z6 (by conv=>lhs;reduce)),trivial⟩
   ·(simp only[↓cdL] at hd;try simp only[Ty.dflt,Int.toNat_natCast] at hd)
    rw[if_neg (by omega)] at hkv
    (repeat (first|refine zs rfl ?_|refine zg rfl rfl rfl ?_|refine zd ?_|refine q8 ?_|refine q7 ?_|refine zne eqT rfl rfl rfl ?_))
    refine⟨(),?_,trivial⟩
    rw[hkv,← hil]
    (exact z6 (by conv=>lhs;reduce))
  ·have hb1:(List.take (kO u i) X).length≤1000:=by rw[List.length_take];omega
   have hb2:(List.drop (kO u i) X).length≤1000:=by rw[List.length_drop];omega
   have hb3:(List.take (kO u i) X++[(i:Int)]).length≤1001:=by rw[List.length_append];simp;omega
   have hb4:(List.take (kO u i) X++[(i:Int)]++List.drop (kO u i) X).length≤2001:=by rw[List.length_append];omega
   (repeat (first|refine zs rfl ?_|refine zg rfl rfl rfl ?_|refine zd ?_|refine q8 ?_|refine q7 ?_|refine zne eqT rfl rfl rfl ?_))
   refine⟨i+1,?_,by omega,by omega⟩
   rw[hst]
   (exact z6 (by conv=>lhs;reduce))
 ·(simp only[↓cdL] at hc;try simp only[Ty.dflt,Int.toNat_natCast] at hc)
  rw[hfin (by omega)]
  (repeat (first|refine zs rfl ?_|refine zg rfl rfl rfl ?_|refine zd ?_|refine q8 ?_|refine q7 ?_|refine zne eqT rfl rfl rfl ?_))
  refine⟨.inl rfl,_,_,rfl,trivial,?_⟩
  rfl
end Go.Proofs.YtjfafggkkjgpeaaGreatDoor
namespace Go.Proofs.YtjfafggkkjgpeaaGreatDoor
open Go Go.RowKit Ox Ox.Sh Ox.Se
attribute [local irreducible] JC JL JK JW
attribute [local irreducible] ovA stA pkV
end Go.Proofs.YtjfafggkkjgpeaaGreatDoor
namespace Go.Proofs.YtjfafggkkjgpeaaGreatDoor
open Go Go.RowKit Ox Ox.Sh Ox.Se
variable {P:Int}{l:List Pt}
def tB(P:Int)(l:List Pt)(m i:Nat):Bool:=toB P l m (2*i)||toB P l m (2*i+1)
theorem sdE_0(i:Nat):sdE P l (2*i)=sA P l i:=by
 have:=sd_eq P l i 0 (by decide)
 simpa using this
theorem sdE_1(i:Nat):sdE P l (2*i+1)=sE P l i:=by
 have:=sd_eq P l i 1 (by decide)
 simpa using this
theorem tB_iff{m i:Nat}:tB P l m i=true↔(sA P l m=sA P l i∨sA P l m=sE P l i∨sE P l m=sA P l i∨sE P l m=sE P l i):=by
 unfold tB toB
 rw[sdE_0,sdE_1,Bool.or_eq_true,decide_eq_true_iff,decide_eq_true_iff]
 constructor
 ·rintro((h|h)|(h|h))<;>simp[h]
 ·rintro(h|h|h|h)<;>simp[h]
theorem z6i{m i:Nat}(h:tB P l m i=true):tB P l i m=true:=by
 rw[tB_iff] at h ⊢
 rcases h with h|h|h|h<;>simp[h]
theorem tM_iff{p m:Nat}:tM P l p m=true↔∃ j,j<8∧p.testBit j=true∧tB P l j m=true:=by
 unfold tM tcB tB
 rw[Bool.or_eq_true,List.any_eq_true,List.any_eq_true]
 constructor
 ·rintro(⟨j,hj,h⟩|⟨j,hj,h⟩)
  ·exact⟨j,(x6.1 hj).1,(x6.1 hj).2,by rw[h];rfl⟩
  ·exact⟨j,(x6.1 hj).1,(x6.1 hj).2,by rw[h,Bool.or_true]⟩
 ·rintro⟨j,h1,h2,h3⟩
  rcases Bool.or_eq_true _ _▸h3 with h|h
  ·exact Or.inl ⟨j,x6.2 ⟨h1,h2⟩,h⟩
  ·exact Or.inr ⟨j,x6.2 ⟨h1,h2⟩,h⟩
inductive Conn(P:Int)(l:List Pt)(n:Nat):Nat→Prop
 |refl:Conn P l n n
 |step {j k:Nat}:Conn P l n j→k<l.length→tB P l j k=true→Conn P l n k
theorem Conn.lt{n m:Nat}(hn:n<l.length)(h:Conn P l n m):m<l.length:=by
 cases h with
 |refl=>exact hn
 |step _ h _=>exact h
theorem Conn.trans{a b c:Nat}(h1:Conn P l a b)(h2:Conn P l b c):Conn P l a c:=by
 induction h2 with
 |refl=>exact h1
 |step _ hk ht ih=>exact .step ih hk ht
theorem Conn.symm{a b:Nat}(ha:a<l.length)(h:Conn P l a b):Conn P l b a:=by
 induction h with
 |refl=>exact .refl
 |step hj hk ht ih=>exact Conn.trans (.step .refl (hj.lt ha) (z6i ht)) ih
theorem q81(h8:l.length≤8){n:Nat}(hn:n<l.length):∀ (f p:Nat),p<2 ^ l.length→256≤f+p→p.testBit n=true→(∀ m,p.testBit m=true→Conn P l n m) →
  grF P l f p<2 ^ l.length∧(grF P l f p).testBit n=true∧(∀ m,(grF P l f p).testBit m=true→Conn P l n m)∧grN P l (grF P l f p) l.length=grF P l f p
 |0,p,h1,h2,_,_=>by
  have:2 ^ l.length≤256:=Nat.pow_le_pow_right (n:=2) (by omega) h8
  omega
 |f+1,p,h1,h2,h3,h4=>by
  rw[grF]
  split
  ·rename_i e;exact⟨h1,h3,h4,e⟩
  ·rename_i e
   have hge:=grN_ge P l p l.length
   refine q81 h8 hn f _ (z9a h1 (Nat.le_refl _)) (by omega) ?_ fun m hm=>?_
   ·rw[q80,h3];rfl
   ·rw[q80,Bool.or_eq_true,Bool.and_eq_true,decide_eq_true_iff] at hm
    rcases hm with hm|⟨hm1,hm2⟩
    ·exact h4 m hm
    ·obtain⟨j,_,hj,ht⟩:=tM_iff.1 hm2
     exact .step (h4 j hj) hm1 ht
theorem grp_lt(h8:l.length≤8){n:Nat}(hn:n<l.length):grp P l n<2 ^ l.length:=by
 have hp:=Nat.one_le_two_pow (n:=n)
 exact(q81 (P:=P) h8 hn 256 (2 ^ n) (Nat.pow_lt_pow_right (by omega) hn) (by omega) (by rw[Nat.testBit_two_pow];simp) (fun m hm=>by rw[Nat.testBit_two_pow] at hm;have:=of_decide_eq_true hm;subst this;exact .refl)).1
theorem z2i(h8:l.length≤8){n m:Nat}(hn:n<l.length):(grp P l n).testBit m=true↔Conn P l n m:=by
 have hp:=Nat.one_le_two_pow (n:=n)
 obtain⟨g1,g2,g3,g4⟩:=q81 (P:=P) h8 hn 256 (2 ^ n) (Nat.pow_lt_pow_right (by omega) hn) (by omega) (by rw[Nat.testBit_two_pow];simp) (fun m hm=>by rw[Nat.testBit_two_pow] at hm;have:=of_decide_eq_true hm;subst this;exact .refl)
 refine⟨g3 m,fun h=>?_⟩
 show(grF P l 256 (2 ^ n)).testBit m=true
 induction h with
 |refl=>exact g2
 |step hj hk ht ih=>
  rw[← g4,q80]
  have hj8:_<8:=Nat.lt_of_lt_of_le (hj.lt hn) h8
  have:tM P l (grF P l 256 (2 ^ n)) _=true:=tM_iff.2 ⟨_,hj8,ih,ht⟩
  rw[this,decide_eq_true hk]
  simp
def cmpL(P:Int)(l:List Pt)(n:Nat):List Nat:=bitsL (grp P l n)
theorem z16(h8:l.length≤8){n m:Nat}(hn:n<l.length):m∈cmpL P l n↔Conn P l n m:=by
 unfold cmpL
 rw[x6,z2i h8 hn]
 exact⟨fun h=>h.2,fun h=>⟨Nat.lt_of_lt_of_le (h.lt hn) h8,h⟩⟩
theorem z89(hP:1≤P)(hl:okP P l)(hne:1≤l.length):held P l (pkA P l:Int)↔∀ m,m<l.length→Conn P l 0 m:=by
 have ht:∀ {i k},i<l.length→k<l.length→(tch P l (pkA P l:Int) i k↔tB P l i k=true):=fun {i k} hi hk=>by rw[tch_st hP hl hi hk,tB_iff]
 constructor
 ·intro h m hm
  refine Classical.byContradiction fun hn=>?_
  obtain⟨i,k,hi,hk,si,sk,hik⟩:=h (Conn P l 0) ⟨0,by omega,.refl⟩ ⟨m,hm,hn⟩
  exact sk (.step si hk ((ht hi hk).1 hik))
 ·intro h S ⟨i,hi,si⟩ ⟨k,hk,sk⟩
  refine Classical.byContradiction fun hno=>?_
  have hcl:∀ a b,a<l.length→b<l.length→tB P l a b=true→(S a↔S b):=fun a b ha hb hab=>by
   constructor
   ·intro sa
    exact Classical.byContradiction fun sb=>hno ⟨a,b,ha,hb,sa,sb,(ht ha hb).2 hab⟩
   ·intro sb
    exact Classical.byContradiction fun sa=>hno ⟨b,a,hb,ha,sb,sa,(ht hb ha).2 (z6i hab)⟩
  have h0:∀ m,Conn P l 0 m→(S 0↔S m):=fun m hm=>by
   induction hm with
   |refl=>exact Iff.rfl
   |step hj hk ht ih=>exact ih.trans (hcl _ _ (hj.lt (by omega)) hk ht)
  exact sk ((h0 k (h k hk)).1 ((h0 i (h i hi)).2 si))
end Go.Proofs.YtjfafggkkjgpeaaGreatDoor
namespace Go.Proofs.YtjfafggkkjgpeaaGreatDoor
open Go Go.RowKit Ox Ox.Sh Ox.Se
attribute [local irreducible] JC JL JK JW
attribute [local irreducible] ovA stA pkV
end Go.Proofs.YtjfafggkkjgpeaaGreatDoor
namespace Go.Proofs.YtjfafggkkjgpeaaGreatDoor
open Go Go.RowKit Ox Ox.Sh Ox.Se
attribute [local irreducible] JC JL JK JW
attribute [local irreducible] ovA stA pkV
end Go.Proofs.YtjfafggkkjgpeaaGreatDoor
namespace Go.Proofs.YtjfafggkkjgpeaaGreatDoor
open Go Go.RowKit Ox Ox.Sh Ox.Se
attribute [local irreducible] JC JL JK JW
attribute [local irreducible] ovA stA pkV
theorem z0e{o:List Nat}{N:Nat}(h:o.Nodup)(hb:∀ x∈o,x<N):o.length≤N:=by
 have:=(perm_sub' (N:=N) h hb)
 exact this
where
 perm_sub' {o:List Nat} {N:Nat} (h:o.Nodup) (hb:∀ x∈o,x<N):o.length≤N:=by
  have key:∀ (N:Nat) (o:List Nat),o.Nodup→(∀ x∈o,x<N)→o.length≤N:=by
   intro N
   induction N with
   |zero=>intro o _ hb;cases o with
    |nil=>exact Nat.le_refl _
    |cons a r=>exact absurd (hb a List.mem_cons_self) (Nat.not_lt_zero _)
   |succ N ih=>
    intro o hn hb
    have h1:=ih (o.erase N) (hn.erase N) fun x hx=>by
     have hx2:=List.mem_of_mem_erase hx
     have:=hb x hx2
     have hne:x≠N:=fun e=>by rw[e] at hx;exact(hn.not_mem_erase) hx
     omega
    have:=List.length_erase_le (a:=N) (l:=o)
    by_cases hm:N∈o
    ·rw[List.length_erase_of_mem hm] at h1;omega
    ·rw[List.erase_of_not_mem hm] at h1;omega
  exact key N o h hb
structure Seen(P:Int)(l:List Pt)(n:Nat)(o:List Nat)(i:Nat):Prop where
 nd:o.Nodup
 cn:∀ m∈o,Conn P l n m
 me:n∈o
 cl:∀ j,j<i→∀ k,k<l.length→tB P l (o.getD j 0) k=true→k∈o
theorem Seen.all{P:Int}{l:List Pt}{n:Nat}{o:List Nat}(h:Seen P l n o o.length)(m:Nat):m∈o↔Conn P l n m:=by
 refine⟨h.cn m,fun hc=>?_⟩
 induction hc with
 |refl=>exact h.me
 |step hj hk ht ih=>
  obtain⟨i,hi,e⟩:=List.mem_iff_getElem.1 ih
  exact h.cl i hi _ hk (by rw[k0 o hi,e];exact ht)
end Go.Proofs.YtjfafggkkjgpeaaGreatDoor
namespace Go.Proofs.YtjfafggkkjgpeaaGreatDoor
open Go Go.RowKit Ox Ox.Sh Ox.Se
attribute [local irreducible] JC JL JK JW
attribute [local irreducible] ovA stA pkV
theorem cmp_nd(P:Int)(l:List Pt)(n:Nat):(cmpL P l n).Nodup:=List.nodup_range.filter _
theorem cmp_lt{P:Int}{l:List Pt}(h8:l.length≤8){n:Nat}(hn:n<l.length):∀ m∈cmpL P l n,m<l.length:=fun m hm=>((z16 h8 hn).1 hm).lt hn
theorem z2d{α:Type}[DecidableEq α]:∀ {z a:List α},z.Nodup→(∀ x∈z,x∈a)→z.length≤a.length
 |[],_,_,_=>Nat.zero_le _
 |x::z,a,hn,hs=>by
  obtain⟨h1,h2⟩:=List.nodup_cons.1 hn
  have hx:=hs x List.mem_cons_self
  have h3:=z2d (z:=z) (a:=a.erase x) h2 fun y hy=>by
   have:y≠x:=fun e=>h1 (e▸hy)
   exact(List.mem_erase_of_ne this).2 (hs y (List.mem_cons_of_mem _ hy))
  rw[List.length_erase_of_mem hx] at h3
  have:=List.length_pos_of_mem hx
  rw[List.length_cons];omega
theorem full_len{o:List Nat}{N:Nat}(hn:o.Nodup)(hb:∀ m∈o,m<N):o.length=N↔∀ m,m<N→m∈o:=by
 constructor
 ·intro h m hm
  have hp:=q8m hn (List.nodup_range (n:=N)) (fun x hx=>List.mem_range.2 (hb x hx)) (by rw[List.length_range];omega)
  exact hp.mem_iff.2 (List.mem_range.2 hm)
 ·intro h
  have h1:=z0e hn hb
  have h2:(List.range N).length≤o.length:=z2d List.nodup_range fun x hx=>h x (List.mem_range.1 hx)
  rw[List.length_range] at h2
  omega
theorem j0a{P:Int}{l:List Pt}(h8:l.length≤8){n:Nat}(hn:n<l.length):(cmpL P l n).length=l.length↔∀ m,m<l.length→Conn P l n m:=by
 rw[full_len (cmp_nd P l n) (cmp_lt h8 hn)]
 exact⟨fun h m hm=>(z16 h8 hn).1 (h m hm),fun h m hm=>(z16 h8 hn).2 (h m hm)⟩
theorem grp_all{P:Int}{l:List Pt}(h8:l.length≤8){n:Nat}(hn:n<l.length):grp P l n=2 ^ l.length-1↔(cmpL P l n).length=l.length:=by
 rw[j0a h8 hn]
 constructor
 ·intro h m hm
  rw[← z2i h8 hn,h,Nat.testBit_two_pow_sub_one]
  exact decide_eq_true hm
 ·intro h
  refine Nat.eq_of_testBit_eq fun i=>?_
  rw[Nat.testBit_two_pow_sub_one,Bool.eq_iff_iff,z2i h8 hn,decide_eq_true_iff]
  exact⟨fun h=>h.lt hn,h i⟩
def apE(P:Int)(l:List Pt):Int:=if seE P l≠0 then seE P l else if (cmpL P l 0).length=l.length then 5 else 0
def apI(P:Int)(l:List Pt):List Int:=if apE P l=0 then iL (cmpL P l 0) else []
theorem fn18(P:Int)(l:List Pt):Ox.Fn Tryz.prog 18 (.acons (vS P l) .anil) (·=vTL (apI P l) (apE P l)):=by
 refine Ox.Fn.intro xok Tryz.func18 rfl Tryz.call18 (Nat.le_of_ble_eq_true rfl) (fun E M0 up=>?_)
 refine z8 ?_
 have c61:=fn32 P l
 unfold vOp at c61
 by_cases hz:seE P l=0
 ·obtain⟨hP,h1,h8,hl⟩:=q1h.1 hz
  have c76:=fn36 P l 0 hP hl h8 (by omega)
  have c77:=fn37 P l h8
  have hg:=grp_all (P:=P) h8 (n:=0) (by omega)
  have hgl:=grp_lt (P:=P) h8 (n:=0) (by omega)
  have hlp:2 ^ l.length≤256:=Nat.pow_le_pow_right (n:=2) (by omega) h8
  have c78:=fn38 (grp P l 0) (by omega)
  rw[if_pos hz,hz] at c61
  have h5:(cmpL P l 0).length=l.length→apE P l=5:=fun h=>by unfold apE;rw[if_neg (by omega),if_pos h]
  have h0:¬ (cmpL P l 0).length=l.length→apE P l=0∧apI P l=iL (bitsL (grp P l 0)):=fun h=>by
   have e:apE P l=0:=by unfold apE;rw[if_neg (by omega),if_neg h]
   exact⟨e,by unfold apI;rw[if_pos e];rfl⟩
  generalize grp P l 0=G at c76 hg hgl c78 h0
  generalize 2 ^ l.length-1=A at c77 hg
  (repeat (first|refine zs rfl ?_|refine zg rfl rfl rfl ?_|refine zd ?_|refine q8 ?_|refine q7 ?_|refine zc rfl (c61) rfl rfl ?_|refine ze rfl (c61) rfl ?_|refine zk rfl rfl (fun _=>c61) rfl rfl ?_|refine zc rfl (c76) rfl rfl ?_|refine ze rfl (c76) rfl ?_|refine zk rfl rfl (fun _=>c76) rfl rfl ?_|refine zc rfl (c77) rfl rfl ?_|refine ze rfl (c77) rfl ?_|refine zk rfl rfl (fun _=>c77) rfl rfl ?_))
  refine z5 rfl (fun h=>absurd h (by decide)) (fun _=>?_)
  (repeat (first|refine zs rfl ?_|refine zg rfl rfl rfl ?_|refine zd ?_|refine q8 ?_|refine q7 ?_|refine zc rfl (c76) rfl rfl ?_|refine ze rfl (c76) rfl ?_|refine zk rfl rfl (fun _=>c76) rfl rfl ?_|refine zc rfl (c77) rfl rfl ?_|refine ze rfl (c77) rfl ?_|refine zk rfl rfl (fun _=>c77) rfl rfl ?_))
  refine z5 rfl (fun hd=>?_) (fun hd=>?_)
  ·(simp only[↓cdL] at hd;try simp only[Ty.dflt,Int.toNat_natCast] at hd)
   (repeat (first|refine zs rfl ?_|refine zg rfl rfl rfl ?_|refine zd ?_|refine q8 ?_|refine q7 ?_))
   refine⟨.inl rfl,_,_,rfl,trivial,?_⟩
   have e:=h5 (hg.1 (Int.ofNat_inj.1 hd))
   unfold apI;rw[e,if_neg (by decide)]
  ·(simp only[↓cdL] at hd;try simp only[Ty.dflt,Int.toNat_natCast] at hd)
   (repeat (first|refine zs rfl ?_|refine zg rfl rfl rfl ?_|refine zd ?_|refine q8 ?_|refine q7 ?_|refine zc rfl (c78) rfl rfl ?_|refine ze rfl (c78) rfl ?_|refine zk rfl rfl (fun _=>c78) rfl rfl ?_))
   refine⟨.inl rfl,_,_,rfl,trivial,?_⟩
   obtain⟨e1,e2⟩:=h0 (fun h=>hd (by rw[hg.2 h]))
   rw[e1,e2]
 ·rw[if_neg hz] at c61
  (repeat (first|refine zs rfl ?_|refine zg rfl rfl rfl ?_|refine zd ?_|refine q8 ?_|refine q7 ?_|refine zc rfl (c61) rfl rfl ?_|refine ze rfl (c61) rfl ?_|refine zk rfl rfl (fun _=>c61) rfl rfl ?_))
  refine z5 rfl (fun hc=>?_) (fun hc=>?_)
  ·(repeat (first|refine zs rfl ?_|refine zg rfl rfl rfl ?_|refine zd ?_|refine q8 ?_|refine q7 ?_))
   refine⟨.inl rfl,_,_,rfl,trivial,?_⟩
   have h2:apE P l=seE P l:=by unfold apE;rw[if_pos hz]
   unfold apI;rw[h2,if_neg hz]
  ·(simp only[↓cdL] at hc;try simp only[Ty.dflt,Int.toNat_natCast] at hc)
   omega
end Go.Proofs.YtjfafggkkjgpeaaGreatDoor
namespace Go.Proofs.YtjfafggkkjgpeaaGreatDoor
open Go Go.RowKit Ox Ox.Sh Ox.Se
attribute [local irreducible] JC JL JK JW
attribute [local irreducible] ovA stA pkV
def Inc(N:Nat)(xs:List Int):Prop:=(∀ x∈xs,0≤x∧x<(N:Int))∧xs.Pairwise (· < ·)
theorem Inc.nil(N:Nat):Inc N []:=⟨(fun x hx=>by cases hx),List.Pairwise.nil⟩
theorem Inc.take{N:Nat}{xs:List Int}(h:Inc N xs)(i:Nat):Inc N (xs.take i):=⟨fun x hx=>h.1 x (List.mem_of_mem_take hx),h.2.sublist (List.take_sublist _ _)⟩
end Go.Proofs.YtjfafggkkjgpeaaGreatDoor
namespace Go.Proofs.YtjfafggkkjgpeaaGreatDoor
open Go Go.RowKit Ox Ox.Sh Ox.Se
attribute [local irreducible] JC JL JK JW
attribute [local irreducible] ovA stA pkV
def insI{α:Type}(n:α)(p:Nat)(X:List α):List α:=X.take p++[n]++X.drop p
def stepN{α:Type}(n:α)(m:Nat)(X:List α):List (List α):=(List.range m).map fun j=>insI n (j+1) X
def inO:Nat→List (List Nat)
 |0=>[[0]]
 |k+1=>(inO k).flatMap (stepN (k+1) (k+1))
theorem z0q{α:Type}(n:α)(p:Nat)(X:List α):(insI n p X).Perm (X++[n]):=by
 unfold insI
 have h:(X.take p++X.drop p).Perm X:=by rw[List.take_append_drop]
 rw[List.append_assoc]
 have a:(X.take p++([n]++X.drop p)).Perm (X.take p++(X.drop p++[n])):=List.Perm.append_left _ List.perm_append_comm
 refine a.trans ?_
 rw[← List.append_assoc]
 exact h.append_right [n]
theorem q5l:∀ {k:Nat} {o:List Nat},o∈inO k↔∃ z,o=0::z∧(0::z).Perm (List.range (k+1))
 |0,o=>by
  rw[inO,List.mem_singleton]
  constructor
  ·rintro rfl;exact⟨[],rfl,List.Perm.refl _⟩
  ·rintro⟨z,rfl,hp⟩
   have:=hp.length_eq
   rw[List.length_range,List.length_cons] at this
   rw[List.length_eq_zero_iff.1 (show z.length=0 by omega)]
 |k+1,o=>by
  rw[inO,List.mem_flatMap]
  constructor
  ·rintro⟨x,hx,ho⟩
   obtain⟨z,rfl,hp⟩:=q5l.1 hx
   obtain⟨j,hj,rfl⟩:=List.mem_map.1 ho
   refine⟨insI (k+1) j z,rfl,?_⟩
   have h1:=z0q (k+1) (j+1) (0::z)
   have h2:insI (k+1) (j+1) (0::z)=0::insI (k+1) j z:=rfl
   rw[← h2]
   refine h1.trans ?_
   rw[List.range_succ]
   exact hp.append_right _
  ·rintro⟨z,rfl,hp⟩
   have hz:k+1∈(0::z):=hp.mem_iff.2 (List.mem_range.2 (by omega))
   have hz':k+1∈z:=(List.mem_cons.1 hz).resolve_left (by omega)
   obtain⟨u,v,rfl⟩:=List.append_of_mem hz'
   have hp2:(0::(u++v)).Perm (List.range (k+1)):=by
    have a:(0::(u++(k+1)::v)).Perm ((0::(u++v))++[k+1]):=by
     have:=z0q (k+1) (u.length+1) (0::(u++v))
     have e:insI (k+1) (u.length+1) (0::(u++v))=0::(u++(k+1)::v):=by
      unfold insI;simp
     rwa[e] at this
    have b:=a.symm.trans hp
    rw[List.range_succ] at b
    exact(List.perm_append_right_iff _).1 b
   have hl:=hp2.length_eq
   rw[List.length_range,List.length_cons,List.length_append] at hl
   refine⟨0::(u++v),q5l.2 ⟨_,rfl,hp2⟩,List.mem_map.2 ⟨u.length,List.mem_range.2 (by omega),?_⟩⟩
   unfold insI;simp
theorem q6i{n p:Nat}{X:List Nat}(h:n∉X):(insI n p X).filter (fun x=>decide (x≠n))=X:=by
 unfold insI
 have:∀ Y:List Nat,(∀ y∈Y,y∈X)→Y.filter (fun x=>decide (x≠n))=Y:=fun Y hY=>List.filter_eq_self.2 fun y hy=>decide_eq_true fun e=>h (e▸hY y hy)
 rw[List.filter_append,List.filter_append,this _ (fun y hy=>List.mem_of_mem_take hy),this _ (fun y hy=>List.mem_of_mem_drop hy)]
 simp
theorem insI_inj{n p q:Nat}{X:List Nat}(h:n∉X)(hp:p≤X.length)(hq:q≤X.length)(e:insI n p X=insI n q X):p=q:=by
 have key:∀ p,p≤X.length→(insI n p X).idxOf n=p:=fun p hp=>by
  unfold insI
  rw[List.append_assoc,List.idxOf_append,if_neg (fun h'=>h (List.mem_of_mem_take h'))]
  simp[List.length_take];omega
 rw[← key p hp,e,key q hq]
theorem z0t:∀ k,(inO k).Nodup
 |0=>by simp[inO]
 |k+1=>by
  have hf:∀ x∈inO k,k+1∉x∧x.length=k+1:=fun x hx=>by
   obtain⟨z,rfl,hp⟩:=q5l.1 hx
   refine⟨fun h=>?_,by have:=hp.length_eq;rwa[List.length_range] at this⟩
   have:=List.mem_range.1 (hp.mem_iff.1 h)
   omega
  show((inO k).flatMap (stepN (k+1) (k+1))).Pairwise (·≠·)
  rw[List.pairwise_flatMap]
  refine⟨fun x hx=>?_,?_⟩
  ·obtain⟨h1,h2⟩:=hf x hx
   unfold stepN
   rw[List.pairwise_map]
   refine List.nodup_range.imp_of_mem fun {a b} ha hb hab e=>hab ?_
   have:=List.mem_range.1 ha
   have:=List.mem_range.1 hb
   have:=insI_inj h1 (by omega) (by omega) e
   omega
  ·refine(z0t k).imp_of_mem fun {x y} hx hy hne a ha b hb e=>hne ?_
   obtain⟨i,_,rfl⟩:=List.mem_map.1 ha
   obtain⟨j,_,rfl⟩:=List.mem_map.1 hb
   rw[← q6i (p:=i+1) (hf x hx).1,e,q6i (hf y hy).1]
end Go.Proofs.YtjfafggkkjgpeaaGreatDoor
namespace Go.Proofs.YtjfafggkkjgpeaaGreatDoor
open Go Go.RowKit Ox Ox.Sh Ox.Se
attribute [local irreducible] JC JL JK JW
attribute [local irreducible] ovA stA pkV
def bstep(f:List Nat→Int)(q:List (List Nat)×Int)(o:List Nat):List (List Nat)×Int:=
 if q.2<0∨f o<q.2 then([o],f o) else if f o=q.2 then(q.1++[o],q.2) else q
def BI(f:List Nat→Int)(done:List (List Nat))(q:List (List Nat)×Int):Prop:=
 (done=[]∧q=([],-1))∨(0≤q.2∧(∃ o∈done,f o=q.2)∧(∀ o∈done,q.2≤f o)∧q.1=done.filter fun o=>decide (f o=q.2))
theorem BI.step{f:List Nat→Int}{done:List (List Nat)}{q:List (List Nat)×Int}(h:BI f done q)(o:List Nat)(hp:0≤f o):BI f (done++[o]) (bstep f q o):=by
 right
 rcases h with⟨rfl,rfl⟩|⟨h1,h2,h3,h4⟩
 ·unfold bstep
  rw[if_pos (.inl (by decide))]
  refine⟨hp,⟨o,by simp,rfl⟩,fun x hx=>?_,?_⟩
  ·rw[List.nil_append,List.mem_singleton] at hx;rw[hx];exact Int.le_refl _
  ·simp
 ·unfold bstep
  by_cases c1:f o<q.2
  ·rw[if_pos (.inr c1)]
   refine⟨hp,⟨o,by simp,rfl⟩,fun x hx=>?_,?_⟩
   ·dsimp only
    rcases List.mem_append.1 hx with hx|hx
    ·have:=h3 x hx;omega
    ·rw[List.mem_singleton.1 hx];exact Int.le_refl _
   ·dsimp only
    rw[List.filter_append]
    have:done.filter (fun x=>decide (f x=f o))=[]:=List.filter_eq_nil_iff.2 fun x hx=>by
     have:=h3 x hx
     simp;omega
    rw[this];simp
  ·rw[if_neg (by omega)]
   by_cases c2:f o=q.2
   ·rw[if_pos c2]
    refine⟨h1,⟨o,by simp,c2⟩,fun x hx=>?_,?_⟩
    ·dsimp only
     rcases List.mem_append.1 hx with hx|hx
     ·exact h3 x hx
     ·rw[List.mem_singleton.1 hx];omega
    ·dsimp only
     rw[List.filter_append,h4]
     simp[c2]
   ·rw[if_neg c2]
    obtain⟨y,hy,hye⟩:=h2
    refine⟨h1,⟨y,by simp[hy],hye⟩,fun x hx=>?_,?_⟩
    ·rcases List.mem_append.1 hx with hx|hx
     ·exact h3 x hx
     ·rw[List.mem_singleton.1 hx];omega
    ·rw[List.filter_append,h4]
     simp[c2]
def bestsL(P:Int)(l:List Pt):List (List Nat):=(inO (l.length-1)).filter fun o=>decide (rdL P l o=leR P l)
theorem z33{N:Nat}(hN:1≤N){o:List Nat}:o∈inO (N-1)↔o∈allO N:=by
 rw[q5l,q1k hN,show N-1+1=N by omega]
theorem z0k{P:Int}{l:List Pt}(h1:1≤l.length){o:List Nat}:o∈bestsL P l↔o∈allO l.length∧rdL P l o=leR P l:=by
 unfold bestsL
 rw[List.mem_filter,z33 h1,decide_eq_true_iff]
theorem allO_has{N:Nat}(hN:1≤N){o:List Nat}(h:o∈allO N):o.length=N∧(∀ n∈o,n<N)∧o≠[]∧o.Nodup:=by
 obtain⟨z,rfl,hp⟩:=(q1k hN).1 h
 refine⟨by have:=hp.length_eq;rwa[List.length_range] at this,fun n hn=>List.mem_range.1 (hp.mem_iff.1 hn),(fun e=>by cases e),hp.nodup_iff.2 List.nodup_range⟩
def countI(P:Int)(l:List Pt):Int:=if seE P l=0 then((bestsL P l).length:Int) else 0
end Go.Proofs.YtjfafggkkjgpeaaGreatDoor
namespace Go.Proofs.YtjfafggkkjgpeaaGreatDoor
open Go Go.RowKit Ox Ox.Sh Ox.Se
abbrev kyT:Ty:=.cons (.int .i64) (.cons (.int .i64) .nil)
abbrev wyT:Ty:=.cons (.int .i64) (.cons (.int .i64) (.cons (.int .i64) .nil))
abbrev KD:=Int×Int×Unit
abbrev WD:=Int×Int×Int×Unit
abbrev EnW:=Ent kyT wyT
abbrev ky(q m:Nat):KD:=((q:Int),(m:Int),())
def gl(es:List EnW)(x:KD):Option WD:=if mHas (kt:=kyT) (vt:=wyT) es x=true then some (mGet (kt:=kyT) (vt:=wyT) es x wyT.dflt) else none
theorem q6n{es:List EnW}{x:KD}:mHas (kt:=kyT) (vt:=wyT) es x=true↔∃ e∈es,e.1=x:=by
 unfold mHas
 cases hi:mIdx (kt:=kyT) (vt:=wyT) es x with
 |none=>exact⟨(fun h=>by cases h),fun⟨e,he,hx⟩=>absurd hx (q0i.1 hi e he)⟩
 |some j=>
  obtain⟨hl,hk⟩:=q1y hi
  exact⟨fun _=>⟨_,List.getElem_mem hl,hk⟩,fun _=>rfl⟩
theorem gl_put{es:List EnW}{clk:Nat}(h:MWF es clk)(x y:KD)(v:WD):gl (mPut (kt:=kyT) (vt:=wyT) es clk x v) y=if y=x then some v else gl es y:=by
 unfold gl
 have hk:mHas (kt:=kyT) (vt:=wyT) (mPut (kt:=kyT) (vt:=wyT) es clk x v) y=true↔y=x∨mHas (kt:=kyT) (vt:=wyT) es y=true:=by
  rw[q6n,q6n];exact mPut_key h
 have hg:=mGet_put (kt:=kyT) (vt:=wyT) (v:=v) (d:=wyT.dflt) (x:=x) (y:=y) h (inferInstanceAs (Decidable ((y:KD)=x)))
 by_cases e:y=x
 ·rw[if_pos (hk.2 (.inl e)),if_pos e,hg,if_pos e]
 ·rw[if_neg e,hg,if_neg e]
  by_cases c:mHas (kt:=kyT) (vt:=wyT) es y=true
  ·rw[if_pos (hk.2 (.inr c)),if_pos c]
  ·rw[if_neg (fun h'=>c ((hk.1 h').resolve_left e)),if_neg c]
theorem gl_del{es:List EnW}{clk:Nat}(h:MWF es clk)(x y:KD):gl (mDel (kt:=kyT) (vt:=wyT) es x) y=if y=x then none else gl es y:=by
 unfold gl
 have hk:mHas (kt:=kyT) (vt:=wyT) (mDel (kt:=kyT) (vt:=wyT) es x) y=true↔y≠x∧mHas (kt:=kyT) (vt:=wyT) es y=true:=by
  rw[q6n,q6n]
  constructor
  ·rintro⟨e,he,rfl⟩
   have:=(q8w h).1 he
   exact⟨this.2,e,this.1,rfl⟩
  ·rintro⟨h1,e,he,rfl⟩
   exact⟨e,(q8w h).2 ⟨he,h1⟩,rfl⟩
 by_cases e:y=x
 ·rw[if_neg (fun h'=>(hk.1 h').1 e),if_pos e]
 ·rw[if_neg e]
  by_cases c:mHas (kt:=kyT) (vt:=wyT) es y=true
  ·rw[if_pos (hk.2 ⟨e,c⟩),if_pos c]
   obtain⟨a,ha,rfl⟩:=q6n.1 c
   rw[q3n h ha,q3n h.del ((q8w h).2 ⟨ha,e⟩)]
  ·rw[if_neg (fun h'=>c (hk.1 h').2),if_neg c]
theorem z82{a b c d:Nat}:ky a b=ky c d↔a=c∧b=d:=by
 constructor
 ·intro h
  have h1:(a:Int)=c:=congrArg (fun z:KD=>z.1) h
  have h2:(b:Int)=d:=congrArg (fun z:KD=>z.2.1) h
  exact⟨Int.ofNat_inj.1 h1,Int.ofNat_inj.1 h2⟩
 ·rintro⟨rfl,rfl⟩;rfl
abbrev Tb:=Nat→Nat→Option WD
def upT(T:Tb)(a b:Nat)(v:Option WD):Tb:=fun q m=>if q=a∧m=b then v else T q m
structure TG(es:List EnW)(clk:Nat)(T:Tb):Prop where
 wf:MWF es clk
 eq:∀ q m,gl es (ky q m)=T q m
theorem TG.put{es:List EnW}{clk:Nat}{T:Tb}(h:TG es clk T)(a b:Nat)(v:WD):TG (mPut (kt:=kyT) (vt:=wyT) es clk (ky a b) v) (mClk (kt:=kyT) (vt:=wyT) es clk (ky a b)) (upT T a b (some v)):=by
 refine⟨h.wf.put,fun q m=>?_⟩
 rw[gl_put h.wf]
 unfold upT
 by_cases c:q=a∧m=b
 ·rw[if_pos (z82.2 c),if_pos c]
 ·rw[if_neg (fun h'=>c (z82.1 h')),if_neg c,h.eq]
theorem TG.del{es:List EnW}{clk:Nat}{T:Tb}(h:TG es clk T)(a b:Nat):TG (mDel (kt:=kyT) (vt:=wyT) es (ky a b)) clk (upT T a b none):=by
 refine⟨h.wf.del,fun q m=>?_⟩
 rw[gl_del h.wf]
 unfold upT
 by_cases c:q=a∧m=b
 ·rw[if_pos (z82.2 c),if_pos c]
 ·rw[if_neg (fun h'=>c (z82.1 h')),if_neg c,h.eq]
theorem TG.some{es:List EnW}{clk:Nat}{T:Tb}(h:TG es clk T){q m:Nat}{w:WD}(e:T q m=some w):mHas (kt:=kyT) (vt:=wyT) es (ky q m)=true∧mGet (kt:=kyT) (vt:=wyT) es (ky q m) wyT.dflt=w:=by
 have:=h.eq q m
 rw[e] at this
 unfold gl at this
 split at this
 ·rename_i c;exact⟨c,Option.some.inj this⟩
 ·cases this
theorem TG.none{es:List EnW}{clk:Nat}{T:Tb}(h:TG es clk T){q m:Nat}(e:T q m=none):mHas (kt:=kyT) (vt:=wyT) es (ky q m)=false:=by
 have:=h.eq q m
 rw[e] at this
 unfold gl at this
 split at this
 ·cases this
 ·rename_i c;exact Bool.eq_false_iff.2 c
theorem or_xor{p k:Nat}(h:p.testBit k=false):(p ||| 2 ^ k) ^^^ 2 ^ k=p:=by
 refine Nat.eq_of_testBit_eq fun i=>?_
 rw[Nat.testBit_xor,Nat.testBit_or,Nat.testBit_two_pow]
 by_cases e:k=i
 ·subst e;rw[h];simp
 ·rw[decide_eq_false e];simp
theorem xor_or{q m:Nat}(h:q.testBit m=true):(q ^^^ 2 ^ m) ||| 2 ^ m=q:=by
 refine Nat.eq_of_testBit_eq fun i=>?_
 rw[Nat.testBit_or,Nat.testBit_xor,Nat.testBit_two_pow]
 by_cases e:m=i
 ·subst e;rw[h];simp
 ·rw[decide_eq_false e];simp
theorem q8a{q m:Nat}(h:q.testBit m=true):(q ^^^ 2 ^ m).testBit m=false:=by
 rw[Nat.testBit_xor,Nat.testBit_two_pow,h];simp
theorem z7q{p k:Nat}:(p ||| 2 ^ k).testBit k=true:=by
 rw[Nat.testBit_or,Nat.testBit_two_pow];simp
theorem or_gt{p k:Nat}(h:p.testBit k=false):p<p ||| 2 ^ k:=by
 refine Nat.lt_of_le_of_ne Nat.left_le_or fun e=>?_
 have:=z7q (p:=p) (k:=k)
 rw[← e,h] at this;cases this
theorem q2q{q m:Nat}(h:q.testBit m=true):q ^^^ 2 ^ m<q:=by
 have:=or_gt (q8a h)
 rwa[xor_or h] at this
theorem q58{q:Nat}:q.testBit 0=true↔q % 2=1:=by
 rw[Nat.testBit_zero,decide_eq_true_iff]
theorem q79{q m:Nat}(hm:m≠0):(q ^^^ 2 ^ m) % 2=1↔q % 2=1:=by
 rw[← q58,← q58,Nat.testBit_xor,Nat.testBit_two_pow,decide_eq_false hm,Bool.xor_false]
theorem or_odd{q m:Nat}(h:q % 2=1):(q ||| 2 ^ m) % 2=1:=by
 rw[← q58] at h ⊢
 rw[Nat.testBit_or,h];rfl
theorem z3i{p q m:Nat}:(q.testBit m=true∧q ^^^ 2 ^ m=p)↔(p.testBit m=false∧q=p ||| 2 ^ m):=by
 constructor
 ·rintro⟨h,rfl⟩;exact⟨q8a h,(xor_or h).symm⟩
 ·rintro⟨h,rfl⟩;exact⟨z7q,or_xor h⟩
theorem q62{q m N:Nat}(hq:q<2 ^ N)(h:q.testBit m=true):m<N:=by
 refine Nat.lt_of_not_le fun hle=>?_
 rw[Nat.testBit_lt_two_pow (Nat.lt_of_lt_of_le hq (Nat.pow_le_pow_right (by omega) hle))] at h
 cases h
def pc(q:Nat):Nat:=(bitsL q).length
theorem pc_le(q:Nat):pc q≤8:=q61 q 8
theorem q9l(q:Nat):(bitsL q).Nodup:=List.nodup_range.filter _
theorem pc_step{q m:Nat}(h8:m<8)(h:q.testBit m=true):pc (q ^^^ 2 ^ m)+1≤pc q:=by
 have hb:=q8a h
 have:=z2d (z:=m::bitsL (q ^^^ 2 ^ m)) (a:=bitsL q) (List.nodup_cons.2 ⟨(fun h'=>by
  have:=(x6.1 h').2
  rw[hb] at this;cases this),q9l _⟩) fun x hx=>by
   rcases List.mem_cons.1 hx with rfl|hx
   ·exact x6.2 ⟨h8,h⟩
   ·obtain⟨h1,h2⟩:=x6.1 hx
    refine x6.2 ⟨h1,?_⟩
    have hne:m≠x:=fun e=>by subst e;rw[hb] at h2;cases h2
    rw[Nat.testBit_xor,Nat.testBit_two_pow,decide_eq_false hne,Bool.xor_false] at h2
    exact h2
 rw[List.length_cons] at this
 exact this
def mrg(c:Option WD)(d:WD):WD:=match c with
 |none=>d
 |some c=>if c.1=d.1 then(d.1,d.2.1+c.2.1,c.2.2.1,()) else if c.1<d.1 then c else d
section
variable (P:Int)(l:List Pt)(most:Int)
def cst(e:Nat→Option WD)(m:Nat)(cur:Option WD)(i:Nat):Option WD:=match e i with
 |none=>cur
 |some w=>if w.1>most then cur else some (mrg cur (w.1+gp P l i m,w.2.1,(i:Int),()))
def foldC(e:Nat→Option WD)(m:Nat)(is:List Nat):Option WD:=is.foldl (cst P l most e m) none
def st0:WD:=(0,1,-1,())
def entA:Nat→Nat→Nat→Option WD
 |0,_,_=>none
 |f+1,q,m=>if q=1∧m=0 then some st0 else if m≠0∧q.testBit m=true then foldC P l most (entA f (q ^^^ 2 ^ m)) m (bitsL (q ^^^ 2 ^ m)) else none
def ent(q m:Nat):Option WD:=entA P l most 256 q m
def prn(o:Option WD):Option WD:=match o with|none=>none|some w=>if w.1>most then none else some w
end
section
variable {P:Int}{l:List Pt}{most:Int}
theorem q4p{e:Nat→Option WD}{m:Nat}{is:List Nat}{i:Nat}:foldC P l most e m (is++[i])=cst P l most e m (foldC P l most e m is) i:=by
 unfold foldC;rw[List.foldl_append];rfl
theorem z0z:∀ (f q m:Nat),q<f→entA P l most f q m=entA P l most (f+1) q m
 |0,q,m,h=>by omega
 |f+1,q,m,h=>by
  rw[entA,entA]
  split
  ·rfl
  ·split
   ·rename_i c
    have hlt:=q2q c.2
    have:entA P l most f (q ^^^ 2 ^ m)=entA P l most (f+1) (q ^^^ 2 ^ m):=funext fun i=>z0z f _ i (by omega)
    rw[this]
   ·rfl
theorem q6x{q:Nat}(m:Nat)(h:q<256):ent P l most q m=if q=1∧m=0 then some st0 else if m≠0∧q.testBit m=true then foldC P l most (ent P l most (q ^^^ 2 ^ m)) m (bitsL (q ^^^ 2 ^ m)) else none:=by
 unfold ent
 rw[z0z 256 q m h,entA]
def wB(k:Nat)(n:Nat)(w:WD):Prop:=(0≤w.1∧w.1≤1000*k)∧(1≤w.2.1∧w.2.1≤n)∧-1≤w.2.2.1∧w.2.2.1<8
theorem mrg_bd{c:Option WD}{d:WD}{k n n':Nat}(hc:∀ w,c=some w→wB k n w)(hd:wB k n' d):wB k (n+n') (mrg c d):=by
 obtain⟨d1,d2,d3⟩:=hd
 cases c with
 |none=>
  show wB k (n+n') d
  exact⟨d1,⟨d2.1,by push_cast;omega⟩,d3⟩
 |some c=>
  obtain⟨c1,c2,c3⟩:=hc c rfl
  show wB k (n+n') (if c.1=d.1 then(d.1,d.2.1+c.2.1,c.2.2.1,()) else if c.1<d.1 then c else d)
  split
  ·refine⟨d1,⟨?_,?_⟩,c3⟩
   ·dsimp only;omega
   ·dsimp only;push_cast;omega
  ·split
   ·exact⟨c1,⟨c2.1,by push_cast;omega⟩,c3⟩
   ·exact⟨d1,⟨d2.1,by push_cast;omega⟩,d3⟩
theorem z39(hP:1≤P∧P≤1000){e:Nat→Option WD}{m k n:Nat}(he:∀ i w,e i=some w→wB k n w):∀ (is:List Nat) (cur:Option WD) (c:Nat),(∀ i∈is,i<8)→(∀ w,cur=some w→wB (k+1) c w)→∀ w,is.foldl (cst P l most e m) cur=some w→wB (k+1) (c+is.length*n) w
 |[],cur,c,_,hc,w,h=>by
  obtain⟨x,y,z⟩:=hc w h
  exact⟨x,⟨y.1,by push_cast;have:(0:Int)≤((([]:List Nat).length*n:Nat):Int):=Int.natCast_nonneg _;push_cast at this;omega⟩,z⟩
 |i::is,cur,c,hi,hc,w,h=>by
  rw[List.foldl_cons] at h
  have:=z39 hP he is (cst P l most e m cur i) (c+n) (fun x hx=>hi x (List.mem_cons_of_mem _ hx)) (fun v hv=>by
   unfold cst at hv
   split at hv
   ·obtain⟨x,y,z⟩:=hc v hv
    exact⟨x,⟨y.1,by push_cast;omega⟩,z⟩
   ·rename_i u hu
    split at hv
    ·obtain⟨x,y,z⟩:=hc v hv
     exact⟨x,⟨y.1,by push_cast;omega⟩,z⟩
    ·rw[← Option.some.inj hv]
     refine mrg_bd hc ?_
     obtain⟨x,y,z⟩:=he i u hu
     have hg:=q7l (l:=l) hP.1 i m
     have:=hi i (by simp)
     refine⟨⟨by dsimp only;omega,by dsimp only;push_cast;omega⟩,y,?_⟩
     dsimp only;omega) w h
  rw[List.length_cons,Nat.add_mul,Nat.one_mul]
  rwa[show c+(is.length*n+n)=c+n+is.length*n by omega]
theorem z4d(hP:1≤P∧P≤1000){e:Nat→Option WD}{m k n:Nat}(he:∀ i w,e i=some w→wB k n w){is:List Nat}(hi:∀ i∈is,i<8)(w:WD)(h:foldC P l most e m is=some w):wB (k+1) (is.length*n) w:=by
 have:=z39 (l:=l) (most:=most) (m:=m) hP he is none 0 hi (fun w h=>by cases h) w h
 rwa[Nat.zero_add] at this
theorem ent_bd(hP:1≤P∧P≤1000):∀ (f q m:Nat),q<f→q<256→∀ w,ent P l most q m=some w→wB (pc q) (8 ^ pc q) w
 |0,q,m,h,_,_,_=>by omega
 |f+1,q,m,h,h2,w,hw=>by
  rw[q6x m h2] at hw
  split at hw
  ·rw[← Option.some.inj hw]
   have:=Nat.one_le_two_pow (n:=0)
   refine⟨⟨by decide,by show(0:Int)≤_;omega⟩,⟨by decide,?_⟩,by decide,by decide⟩
   have:1≤8 ^ pc q:=Nat.one_le_pow _ _ (by omega)
   show(1:Int)≤_
   omega
  ·split at hw
   ·rename_i c
    have hlt:=q2q c.2
    have hm8:m<8:=q62 (N:=8) (by omega) c.2
    have hs:=pc_step hm8 c.2
    have hfb:=z4d (l:=l) (most:=most) (m:=m) hP (k:=pc (q ^^^ 2 ^ m)) (n:=8 ^ pc (q ^^^ 2 ^ m)) (fun i w hi=>ent_bd hP f (q ^^^ 2 ^ m) i (by omega) (by omega) w hi) (fun i hi=>(x6.1 hi).1) w hw
    obtain⟨a,b,c⟩:=hfb
    have h8:(bitsL (q ^^^ 2 ^ m)).length*8 ^ pc (q ^^^ 2 ^ m)≤8 ^ pc q:=by
     have h1:(bitsL (q ^^^ 2 ^ m)).length≤8:=pc_le _
     have h2:8 ^ (pc (q ^^^ 2 ^ m)+1)≤8 ^ pc q:=Nat.pow_le_pow_right (by omega) hs
     rw[Nat.pow_succ] at h2
     have h3:=Nat.mul_le_mul_right (8 ^ pc (q ^^^ 2 ^ m)) h1
     omega
    have h8':=Int.ofNat_le.2 h8
    exact⟨⟨a.1,by omega⟩,⟨b.1,Int.le_trans b.2 h8'⟩,c⟩
   ·cases hw
theorem pc_pow(q:Nat):8 ^ pc q≤16777216:=Nat.le_trans (Nat.pow_le_pow_right (by omega) (pc_le q)) (by decide)
theorem z2r(hP:1≤P∧P≤1000){q m:Nat}(h:q<256){w:WD}(hw:ent P l most q m=some w):wB 8 16777216 w:=by
 obtain⟨a,b,c⟩:=ent_bd hP 256 q m h h w hw
 have h1:=pc_le q
 have h2:=pc_pow q
 exact⟨⟨a.1,by omega⟩,⟨b.1,by omega⟩,c⟩
theorem z9g(hP:1≤P∧P≤1000){p m:Nat}(h:p<256){is:List Nat}(hi:∀ i∈is,i<8)(hl:is.length≤8){w:WD}(hw:foldC P l most (ent P l most p) m is=some w):wB 9 134217728 w:=by
 obtain⟨a,b,c⟩:=z4d hP (fun i w hw=>z2r hP h hw) hi w hw
 have:is.length*16777216≤8*16777216:=Nat.mul_le_mul_right _ hl
 exact⟨⟨a.1,by omega⟩,⟨b.1,by omega⟩,c⟩
def kLp(P:Int)(l:List Pt)(p j:Nat)(w:WD)(T:Tb):Nat→Tb
 |0=>T
 |k+1=>if p.testBit k=true then kLp P l p j w T k else upT (kLp P l p j w T k) (p ||| 2 ^ k) k (some (mrg (kLp P l p j w T k (p ||| 2 ^ k) k) (w.1+gp P l j k,w.2.1,(j:Int),())))
theorem q6h(p j:Nat)(w:WD)(T:Tb):∀ (n q m:Nat),kLp P l p j w T n q m=if m<n∧p.testBit m=false∧q=p ||| 2 ^ m then some (mrg (T q m) (w.1+gp P l j m,w.2.1,(j:Int),())) else T q m
 |0,q,m=>by rw[kLp,if_neg (by omega)]
 |k+1,q,m=>by
  rw[kLp]
  split
  ·rename_i h
   rw[q6h p j w T k q m]
   by_cases c:m<k∧p.testBit m=false∧q=p ||| 2 ^ m
   ·rw[if_pos c,if_pos ⟨by omega,c.2⟩]
   ·rw[if_neg c,if_neg]
    rintro⟨c1,c2,c3⟩
    have:m≠k:=fun e=>by subst e;rw[h] at c2;cases c2
    exact c ⟨by omega,c2,c3⟩
  ·rename_i h
   have hf:p.testBit k=false:=Bool.eq_false_iff.2 h
   unfold upT
   by_cases e:q=p ||| 2 ^ k∧m=k
   ·obtain⟨rfl,rfl⟩:=e
    rw[if_pos ⟨rfl,rfl⟩,if_pos ⟨by omega,hf,rfl⟩,q6h p j w T m,if_neg (by omega)]
   ·rw[if_neg e,q6h p j w T k q m]
    by_cases c:m<k∧p.testBit m=false∧q=p ||| 2 ^ m
    ·rw[if_pos c,if_pos ⟨by omega,c.2⟩]
    ·rw[if_neg c,if_neg]
     rintro⟨c1,c2,c3⟩
     have:m≠k:=fun e'=>e ⟨by rw[c3,e'],e'⟩
     exact c ⟨by omega,c2,c3⟩
def jSt(P:Int)(l:List Pt)(most:Int)(p:Nat)(T:Tb)(j:Nat):Tb:=match T p j with
 |none=>T
 |some w=>if w.1>most then upT T p j none else kLp P l p j w T l.length
structure TI(P:Int)(l:List Pt)(most:Int)(p:Nat)(is:List Nat)(T:Tb):Prop where
 lo:∀ q m,q % 2=1→q<p→q<2 ^ l.length→T q m=prn most (ent P l most q m)
 md:∀ m,p<2 ^ l.length→T p m=if m∈is then prn most (ent P l most p m) else ent P l most p m
 hi:∀ q m,q % 2=1→p<q→q<2 ^ l.length→T q m=if m≠0∧q.testBit m=true∧q ^^^ 2 ^ m=p then foldC P l most (ent P l most p) m is else if m≠0∧q.testBit m=true∧q ^^^ 2 ^ m<p then ent P l most q m else none
def T0:Tb:=fun q m=>if q=1∧m=0 then some st0 else none
theorem TI.start:TI P l most 1 [] T0:=by
 refine⟨fun q m h1 h2=>by omega,fun m _=>?_,fun q m h1 h2 h3=>?_⟩
 ·rw[if_neg (by simp),q6x m (by decide)]
  unfold T0
  by_cases h:(1:Nat)=1∧m=0
  ·rw[if_pos h,if_pos h]
  ·rw[if_neg h,if_neg h,if_neg]
   rintro⟨a,b⟩
   have h1:=Nat.testBit_two_pow (n:=0) (m:=m)
   rw[Nat.pow_zero,b] at h1
   have:=of_decide_eq_true h1.symm
   exact a this.symm
 ·unfold T0
  rw[if_neg (by omega)]
  split
  ·rfl
  ·rw[if_neg]
   rintro⟨a,b,c⟩
   have:=(q79 (q:=q) a).2 h1
   omega
theorem TI.next{p:Nat}{T:Tb}(h8:l.length≤8)(ho:p % 2=1)(h:TI P l most p (bitsL p) T)(hp:p<2 ^ l.length):TI P l most (p+2) [] T:=by
 have h256:2 ^ l.length≤256:=Nat.pow_le_pow_right (n:=2) (by omega) h8
 refine⟨fun q m h1 h2 h3=>?_,fun m hm=>?_,fun q m h1 h2 h3=>?_⟩
 ·rcases Nat.lt_or_ge q p with c|c
  ·exact h.lo q m h1 c h3
  ·have:q=p:=by omega
   subst this
   rw[h.md m hp]
   split
   ·rfl
   ·rename_i c
    have hb:¬ q.testBit m=true:=fun hb=>c (x6.2 ⟨Nat.lt_of_lt_of_le (q62 hp hb) h8,hb⟩)
    have:ent P l most q m=none:=by
     rw[q6x m (by omega),if_neg,if_neg (fun e=>hb e.2)]
     rintro⟨rfl,rfl⟩
     exact hb (by decide)
    rw[this];rfl
 ·rw[if_neg (by simp),h.hi (p+2) m (by omega) (by omega) hm,q6x m (by omega)]
  rw[if_neg (show ¬ (p+2=1∧m=0) by omega)]
  by_cases c:m≠0∧(p+2).testBit m=true
  ·have h4:=q2q c.2
   have h5:=(q79 (q:=p+2) c.1).2 (by omega)
   rw[if_pos c]
   by_cases d:(p+2) ^^^ 2 ^ m=p
   ·rw[if_pos ⟨c.1,c.2,d⟩,d]
   ·rw[if_neg (fun e=>d e.2.2),if_pos ⟨c.1,c.2,by omega⟩]
  ·rw[if_neg c,if_neg (fun e=>c ⟨e.1,e.2.1⟩),if_neg (fun e=>c ⟨e.1,e.2.1⟩)]
 ·rw[h.hi q m h1 (by omega) h3]
  by_cases c:m≠0∧q.testBit m=true
  ·have h5:=(q79 (q:=q) c.1).2 h1
   by_cases d:q ^^^ 2 ^ m=p
   ·rw[if_pos ⟨c.1,c.2,d⟩,if_neg (fun e=>by have:=e.2.2;omega),if_pos ⟨c.1,c.2,by omega⟩,q6x m (by omega),if_neg (show ¬ (q=1∧m=0) by omega),if_pos c,d]
   ·rw[if_neg (fun e=>d e.2.2)]
    by_cases d2:q ^^^ 2 ^ m<p
    ·rw[if_pos ⟨c.1,c.2,d2⟩,if_neg (fun e=>by have:=e.2.2;omega),if_pos ⟨c.1,c.2,by omega⟩]
    ·rw[if_neg (fun e=>d2 e.2.2)]
     by_cases d3:q ^^^ 2 ^ m=p+2
     ·rw[if_pos ⟨c.1,c.2,d3⟩];rfl
     ·rw[if_neg (fun e=>d3 e.2.2),if_neg (fun e=>by have:=e.2.2;omega)]
  ·rw[if_neg (fun e=>c ⟨e.1,e.2.1⟩),if_neg (fun e=>c ⟨e.1,e.2.1⟩),if_neg (fun e=>c ⟨e.1,e.2.1⟩),if_neg (fun e=>c ⟨e.1,e.2.1⟩)]
theorem TI.step{p j:Nat}{is:List Nat}{T:Tb}(h8:l.length≤8)(ho:p % 2=1)(h:TI P l most p is T)(hp:p<2 ^ l.length)(hj:j∉is):TI P l most p (is++[j]) (jSt P l most p T j):=by
 have hpj:T p j=ent P l most p j:=by rw[h.md j hp,if_neg hj]
 have hmem:∀ m,m∈is++[j]↔m∈is∨m=j:=fun m=>by simp
 unfold jSt
 rw[hpj]
 cases hw:ent P l most p j with
 |none=>
  dsimp only
  refine⟨h.lo,fun m hm=>?_,fun q m h1 h2 h3=>?_⟩
  ·rw[h.md m hm]
   by_cases c:m∈is
   ·rw[if_pos c,if_pos ((hmem m).2 (.inl c))]
   ·rw[if_neg c]
    by_cases d:m=j
    ·subst d;rw[if_pos ((hmem m).2 (.inr rfl)),hw];rfl
    ·rw[if_neg (fun e=>(hmem m).1 e |>.elim c d)]
  ·rw[h.hi q m h1 h2 h3,q4p]
   unfold cst
   rw[hw]
 |some w=>
  dsimp only
  by_cases hc:w.1>most
  ·rw[if_pos hc]
   unfold upT
   refine⟨fun q m h1 h2 h3=>?_,fun m hm=>?_,fun q m h1 h2 h3=>?_⟩
   ·rw[if_neg (by omega)];exact h.lo q m h1 h2 h3
   ·by_cases d:m=j
    ·subst d
     rw[if_pos ⟨rfl,rfl⟩,if_pos ((hmem m).2 (.inr rfl)),hw]
     unfold prn;dsimp only;rw[if_pos hc]
    ·rw[if_neg (fun e=>d e.2),h.md m hm]
     by_cases c:m∈is
     ·rw[if_pos c,if_pos ((hmem m).2 (.inl c))]
     ·rw[if_neg c,if_neg (fun e=>(hmem m).1 e |>.elim c d)]
   ·rw[if_neg (by omega),h.hi q m h1 h2 h3,q4p]
    unfold cst
    rw[hw]
    dsimp only
    rw[if_pos hc]
  ·rw[if_neg hc]
   refine⟨fun q m h1 h2 h3=>?_,fun m hm=>?_,fun q m h1 h2 h3=>?_⟩
   ·rw[q6h,if_neg (fun e=>by have:=or_gt e.2.1;have:=e.2.2;omega)]
    exact h.lo q m h1 h2 h3
   ·rw[q6h,if_neg (fun e=>by have:=or_gt e.2.1;have:=e.2.2;omega),h.md m hm]
    by_cases c:m∈is
    ·rw[if_pos c,if_pos ((hmem m).2 (.inl c))]
    ·rw[if_neg c]
     by_cases d:m=j
     ·subst d
      rw[if_pos ((hmem m).2 (.inr rfl)),hw]
      unfold prn;dsimp only;rw[if_neg hc]
     ·rw[if_neg (fun e=>(hmem m).1 e |>.elim c d)]
   ·rw[q6h,h.hi q m h1 h2 h3,q4p]
    have hcst:cst P l most (ent P l most p) m (foldC P l most (ent P l most p) m is) j=some (mrg (foldC P l most (ent P l most p) m is) (w.1+gp P l j m,w.2.1,(j:Int),())):=by
     unfold cst
     rw[hw]
     dsimp only
     rw[if_neg hc]
    have hp0:p.testBit 0=true:=q58.2 ho
    by_cases c:m≠0∧q.testBit m=true∧q ^^^ 2 ^ m=p
    ·obtain⟨c1,c2⟩:=z3i.1 c.2
     rw[if_pos ⟨q62 h3 c.2.1,c1,c2⟩,if_pos c,if_pos c,hcst]
    ·rw[if_neg,if_neg c,if_neg c]
     rintro⟨_,e1,e2⟩
     obtain⟨c1,c2⟩:=z3i.2 ⟨e1,e2⟩
     exact c ⟨(fun e=>by subst e;rw[hp0] at e1;cases e1),c1,c2⟩
def mLp(P:Int)(l:List Pt)(most:Int):Nat→Tb
 |0=>T0
 |i+1=>(bitsL (2*i+1)).foldl (jSt P l most (2*i+1)) (mLp P l most i)
theorem j00{p:Nat}(h8:l.length≤8)(ho:p % 2=1)(hp:p<2 ^ l.length):∀ (js is:List Nat) (T:Tb),(is++js).Nodup→TI P l most p is T→TI P l most p (is++js) (js.foldl (jSt P l most p) T)
 |[],is,T,_,h=>by rw[List.append_nil];exact h
 |j::js,is,T,hn,h=>by
  have e:is++j::js=(is++[j])++js:=by simp
  rw[e] at hn ⊢
  rw[List.foldl_cons]
  have hj:j∉is:=fun hj=>by
   have:=(List.nodup_append.1 (List.nodup_append.1 hn).1).2.2 j hj j (by simp)
   exact this rfl
  exact j00 h8 ho hp js (is++[j]) _ hn (h.step h8 ho hp hj)
theorem TI.all(h8:l.length≤8):∀ i,2*i≤2 ^ l.length→TI P l most (2*i+1) [] (mLp P l most i)
 |0,_=>TI.start
 |i+1,h=>by
  have h1:=TI.all h8 i (by omega)
  have h2:=j00 h8 (by omega) (by omega) (bitsL (2*i+1)) [] _ (by rw[List.nil_append];exact q9l _) h1
  rw[List.nil_append] at h2
  have h3:=TI.next (p:=2*i+1) h8 (by omega) h2 (by omega)
  exact h3
theorem z6g(h8:l.length≤8)(h1:1≤l.length){q:Nat}(m:Nat)(ho:q % 2=1)(hq:q<2 ^ l.length):mLp P l most (2 ^ (l.length-1)) q m=prn most (ent P l most q m):=by
 have e:2*2 ^ (l.length-1)=2 ^ l.length:=by
  rw[Nat.mul_comm,← Nat.pow_succ]
  congr 1;omega
 exact(TI.all (P:=P) (most:=most) h8 (2 ^ (l.length-1)) (by omega)).lo q m ho (by omega) hq
end
end Go.Proofs.YtjfafggkkjgpeaaGreatDoor
namespace Go.Proofs.YtjfafggkkjgpeaaGreatDoor
open Go Go.RowKit Ox Ox.Sh Ox.Se
attribute [local irreducible] JC JL JK JW
attribute [local irreducible] ovA stA pkV
theorem eqK:EqT Tryz.prog kyT 117:=.of (by decide +kernel)
set_option maxRecDepth 4096 in
theorem mpW:MapT Tryz.prog kyT wyT 112 117 120:=.of (by rfl) (by decide +kernel)
theorem fn74:Ox.Fn Tryz.prog 74 .anil (·=.val kyT (1,0,())):=by
 refine Ox.Fn.intro xok Tryz.func74 rfl Tryz.call74 (Nat.le_of_ble_eq_true rfl) (fun E M0 up=>?_)
 refine z8 ?_
 (repeat (first|refine zs rfl ?_|refine zg rfl rfl rfl ?_|refine zd ?_|refine q8 ?_|refine q7 ?_|refine zmo mpW rfl rfl rfl rfl ?_|refine zmi mpW rfl rfl rfl rfl ?_|refine zmu mpW rfl rfl rfl rfl ?_|refine zmd mpW rfl rfl rfl ?_|refine zmm mpW rfl ?_|refine zne eqK rfl rfl rfl ?_))
 refine⟨.inl rfl,_,_,rfl,trivial,?_⟩
 rfl
def msK(P:Int)(l:List Pt)(i:Nat):Int:=(pkV P l+1)*P-sm (lO l) (List.range i)
theorem msK_succ(P:Int)(l:List Pt)(i:Nat):msK P l (i+1)=msK P l i-lO l i:=by unfold msK;rw[n5];omega
abbrev msT(P:Int)(l:List Pt):Int:=msK P l l.length
theorem z96{X:Ctx}{fn:Func}{c:Code}{Q:Exit→S→Prop}{s:S}(hb:fn.body=some c)(k:JK X [.code c] Q s):JK X [.code (fn.body.getD .skip)] Q s:=by rw[hb];exact k
theorem TG.zero:TG [] 0 (fun _ _=>Option.none):=⟨MWF.nil,fun q m=>rfl⟩
theorem tg_start:TG (mPut (kt:=kyT) (vt:=wyT) [] 0 (1,0,()) (0,1,-1,())) 1 T0:=TG.put TG.zero 1 0 st0
set_option maxHeartbeats 8000000 in
theorem z6y{P:Int}{l:List Pt}(hz:seE P l=0){E:World}{M0 M1:Mem}{n:Nat}{up up1:Nat→Nat→Value}{rg:Nat}{R:AV→List (Nat×AV)→List (Nat×HO)→Nat→Prop}
  (hR:∀ es clk,TG es clk (mLp P l (msT P l) (2 ^ (l.length-1)))→R (.lf (.mp 1)) [(rg,vH P l),(0,vH P l)] [(1,.map kyT wyT es clk)] 2) :
  JK (Ctx.sub ⟨Tryz.prog,tys,ets,mts,E,M0,n,none,up,0⟩ M1 Tryz.f72.ntmps none up1) [.code (Tryz.f72.body.getD .skip)]
   (inlQ ⟨Tryz.prog,tys,ets,mts,E,M0,n,none,up,0⟩ Tryz.f72.results.toList R) ⟨[(0,vH P l)],[(0,.fr 0 [(rg,vH P l),(0,vH P l)])],1⟩:=by
 obtain⟨hP,h1,h8,hl⟩:=q1h.1 hz
 refine z96 (fn:=Tryz.f72) rfl ?_
 have c95:=fn74
 have hpk:0≤pkV P l∧pkV P l≤100000:=by
  have:=ov_bd (P:=P) hP.1 hl (pkA P l:Int)
  unfold pkV
  omega
 have hmb:0≤(pkV P l+1)*P∧(pkV P l+1)*P≤100001000:=by
  have h1:=Int.mul_nonneg (a:=pkV P l+1) (b:=P) (by omega) (by omega)
  have h2:=Int.mul_le_mul (a:=pkV P l+1) (b:=P) (c:=100001) (d:=1000) (by omega) hP.2 (by omega) (by omega)
  omega
 have hp8:2 ^ l.length≤256:=Nat.pow_le_pow_right (n:=2) (by omega) h8
 have hp2:2*2 ^ (l.length-1)=2 ^ l.length:=by
  rw[Nat.mul_comm,← Nat.pow_succ]
  congr 1;omega
 have c77:=fn37 P l h8
 (repeat (first|refine zs rfl ?_|refine zg rfl rfl rfl ?_|refine zd ?_|refine q8 ?_|refine q7 ?_|refine zmo mpW rfl rfl rfl rfl ?_|refine zmi mpW rfl rfl rfl rfl ?_|refine zmu mpW rfl rfl rfl rfl ?_|refine zmd mpW rfl rfl rfl ?_|refine zmm mpW rfl ?_|refine zne eqK rfl rfl rfl ?_))
 refine j1g ?_
 (repeat (first|refine zs rfl ?_|refine zg rfl rfl rfl ?_|refine zd ?_|refine q8 ?_|refine q7 ?_|refine zmo mpW rfl rfl rfl rfl ?_|refine zmi mpW rfl rfl rfl rfl ?_|refine zmu mpW rfl rfl rfl rfl ?_|refine zmd mpW rfl rfl rfl ?_|refine zmm mpW rfl ?_|refine zne eqK rfl rfl rfl ?_|refine zc rfl (c95) rfl rfl ?_|refine ze rfl (c95) rfl ?_|refine zk rfl rfl (fun _=>c95) rfl rfl ?_))
 refine JK.loop (fun i:Nat=>⟨[(0,vH P l),(3,.lf (.mp 1)),(4,vI (msK P l i)),(36,.val (.slice ptT) l),(37,vI l.length),(38,vI (i:Int))],[(0,.fr 0 [(rg,vH P l),(0,vH P l)]),(1,.map kyT wyT (mPut [] 0 (1,0,()) (0,1,-1,())) 1)],2⟩)
  (fun i=>i≤l.length∧-10000*(i:Int)≤msK P l i∧msK P l i≤100001000) (fun i=>l.length-i) 0 ⟨Nat.zero_le _,?_⟩ ?_ fun i ⟨hi,hib⟩=>?_
 ·show(-10000:Int)*((0:Nat):Int)≤(pkV P l+1)*P-0∧(pkV P l+1)*P-0≤100001000
  omega
 ·rw[show msK P l 0=(pkV P l+1)*P from Int.sub_zero _]
  (exact z6 (by conv=>lhs;reduce))
 have hsu:=msK_succ P l i
 have hfin:i=l.length→msK P l i=msT P l:=fun e=>by rw[e]
 have hlg:i<l.length→lO l i=(l.getD i (0,0,())).2.1∧0≤lO l i∧lO l i≤10000:=fun h=>by
  have:=(hl.get h).2
  refine⟨rfl,?_,?_⟩<;>omega
 generalize msK P l i=mi at hib hsu hfin ⊢
 (repeat (first|refine zs rfl ?_|refine zg rfl rfl rfl ?_|refine zd ?_|refine q8 ?_|refine q7 ?_|refine zmo mpW rfl rfl rfl rfl ?_|refine zmi mpW rfl rfl rfl rfl ?_|refine zmu mpW rfl rfl rfl rfl ?_|refine zmd mpW rfl rfl rfl ?_|refine zmm mpW rfl ?_|refine zne eqK rfl rfl rfl ?_))
 refine z5 rfl (fun hc=>?_) (fun hc=>?_)
 ·(simp only[↓cdL] at hc;try simp only[Ty.dflt,Int.toNat_natCast] at hc)
  have hi':i<l.length:=by omega
  obtain⟨g1,g2,g3⟩:=hlg hi'
  (repeat (first|refine zs rfl ?_|refine zg rfl rfl rfl ?_|refine zd ?_|refine q8 ?_|refine q7 ?_|refine zmo mpW rfl rfl rfl rfl ?_|refine zmi mpW rfl rfl rfl rfl ?_|refine zmu mpW rfl rfl rfl rfl ?_|refine zmd mpW rfl rfl rfl ?_|refine zmm mpW rfl ?_|refine zne eqK rfl rfl rfl ?_))
  refine⟨i+1,?_,⟨by omega,by push_cast;omega,by omega⟩,by omega⟩
  rw[hsu,g1]
  (exact z6 (by conv=>lhs;reduce))
 ·(simp only[↓cdL] at hc;try simp only[Ty.dflt,Int.toNat_natCast] at hc)
  rw[hfin (by omega)] at hib ⊢
  clear hfin hsu hlg
  generalize msT P l=most at hib hR ⊢
  (repeat (first|refine zs rfl ?_|refine zg rfl rfl rfl ?_|refine zd ?_|refine q8 ?_|refine q7 ?_|refine zmo mpW rfl rfl rfl rfl ?_|refine zmi mpW rfl rfl rfl rfl ?_|refine zmu mpW rfl rfl rfl rfl ?_|refine zmd mpW rfl rfl rfl ?_|refine zmm mpW rfl ?_|refine zne eqK rfl rfl rfl ?_))
  refine JK.loop (σ:=Nat×List EnW×Nat) (fun q=>⟨[(0,vH P l),(3,.lf (.mp 1)),(4,vI most),(7,vI ((2*q.1+1:Nat):Int))],[(0,.fr 0 [(rg,vH P l),(0,vH P l)]),(1,.map kyT wyT q.2.1 q.2.2)],2⟩)
   (fun q=>2*q.1≤2 ^ l.length∧TG q.2.1 q.2.2 (mLp P l most q.1)) (fun q=>256-q.1) (0,mPut [] 0 (1,0,()) (0,1,-1,()),1) ⟨by omega,?_⟩ (by(exact z6 (by conv=>lhs;reduce))) fun q hq=>?_
  ·exact tg_start
  obtain⟨pi,es,clk⟩:=q
  obtain⟨hpi,htg⟩:=hq
  dsimp only at hpi htg ⊢
  have hend:¬ 2*pi+1≤2 ^ l.length-1→mLp P l most pi=mLp P l most (2 ^ (l.length-1)):=fun h=>by
   have h0:=Nat.one_le_two_pow (n:=l.length)
   rw[show pi=2 ^ (l.length-1) by omega]
  have hti:=fun h=>TI.all (P:=P) (most:=most) h8 pi h
  have hnx:mLp P l most (pi+1)=(bitsL (2*pi+1)).foldl (jSt P l most (2*pi+1)) (mLp P l most pi):=rfl
  generalize mLp P l most pi=T0' at htg hend hti hnx
  have hpo:(2*pi+1) % 2=1:=by omega
  generalize hpe:2*pi+1=p at hend hti hnx hpo ⊢
  (repeat (first|refine zs rfl ?_|refine zg rfl rfl rfl ?_|refine zd ?_|refine q8 ?_|refine q7 ?_|refine zmo mpW rfl rfl rfl rfl ?_|refine zmi mpW rfl rfl rfl rfl ?_|refine zmu mpW rfl rfl rfl rfl ?_|refine zmd mpW rfl rfl rfl ?_|refine zmm mpW rfl ?_|refine zne eqK rfl rfl rfl ?_|refine zc rfl (c77) rfl rfl ?_|refine ze rfl (c77) rfl ?_|refine zk rfl rfl (fun _=>c77) rfl rfl ?_))
  refine z5 rfl (fun hc=>?_) (fun hc=>?_)
  ·(simp only[↓cdL] at hc;try simp only[Ty.dflt,Int.toNat_natCast] at hc)
   have h0:=Nat.one_le_two_pow (n:=l.length)
   have hpl:p<2 ^ l.length:=by omega
   have hp256:p<256:=by omega
   have c78:=fn38 p hp256
   have hti0:=hti (by omega)
   have hbl:(iL (bitsL p)).length=(bitsL p).length:=q2t _
   have hb8:=q61 p 8
   change (bitsL p).length≤8 at hb8
   (repeat (first|refine zs rfl ?_|refine zg rfl rfl rfl ?_|refine zd ?_|refine q8 ?_|refine q7 ?_|refine zmo mpW rfl rfl rfl rfl ?_|refine zmi mpW rfl rfl rfl rfl ?_|refine zmu mpW rfl rfl rfl rfl ?_|refine zmd mpW rfl rfl rfl ?_|refine zmm mpW rfl ?_|refine zne eqK rfl rfl rfl ?_|refine zc rfl (c78) rfl rfl ?_|refine ze rfl (c78) rfl ?_|refine zk rfl rfl (fun _=>c78) rfl rfl ?_))
   refine JK.loop (σ:=Nat×List EnW×Nat) (fun q=>⟨[(0,vH P l),(3,.lf (.mp 1)),(4,vI most),(7,vI (p:Nat)),(54,vL (iL (bitsL p))),(55,vI (iL (bitsL p)).length),(56,vI (q.1:Int))],[(0,.fr 0 [(rg,vH P l),(0,vH P l)]),(1,.map kyT wyT q.2.1 q.2.2)],2⟩)
    (fun q=>q.1≤(bitsL p).length∧∃ T,TG q.2.1 q.2.2 T∧TI P l most p ((bitsL p).take q.1) T∧T=((bitsL p).take q.1).foldl (jSt P l most p) T0') (fun q=>8-q.1) (0,es,clk) ⟨Nat.zero_le _,T0',htg,hti0,rfl⟩ (by(exact z6 (by conv=>lhs;reduce))) fun q hq=>?_
   obtain⟨a,es1,clk1⟩:=q
   obtain⟨ha,T,htg1,hti1,hT⟩:=hq
   dsimp only at ha htg1 hti1 hT ⊢
   (repeat (first|refine zs rfl ?_|refine zg rfl rfl rfl ?_|refine zd ?_|refine q8 ?_|refine q7 ?_|refine zmo mpW rfl rfl rfl rfl ?_|refine zmi mpW rfl rfl rfl rfl ?_|refine zmu mpW rfl rfl rfl rfl ?_|refine zmd mpW rfl rfl rfl ?_|refine zmm mpW rfl ?_|refine zne eqK rfl rfl rfl ?_))
   refine z5 rfl (fun hd=>?_) (fun hd=>?_)
   ·(simp only[↓cdL] at hd;try simp only[Ty.dflt,Int.toNat_natCast] at hd)
    have ha':a<(bitsL p).length:=by omega
    obtain⟨j,hj⟩:∃ j,(bitsL p).getD a 0=j:=⟨_,rfl⟩
    have hjm:j∈bitsL p:=by rw[← hj,k0 _ ha'];exact List.getElem_mem ha'
    obtain⟨hj8,hjb⟩:=x6.1 hjm
    have hjl:j<l.length:=q62 hpl hjb
    have hts:(bitsL p).take (a+1)=(bitsL p).take a++[j]:=by rw[q01 _ ha' 0,hj]
    have hjn:j∉(bitsL p).take a:=fun h=>by
     have hn:=(List.take_sublist (a+1) (bitsL p)).nodup (q9l p)
     rw[hts] at hn
     exact(List.nodup_append.1 hn).2.2 j h j (by simp) rfl
    have hTs:jSt P l most p T j=((bitsL p).take (a+1)).foldl (jSt P l most p) T0':=by rw[hts,List.foldl_append,← hT];rfl
    have htis:TI P l most p ((bitsL p).take (a+1)) (jSt P l most p T j):=by rw[hts];exact hti1.step h8 hpo hpl hjn
    have hTj:T p j=ent P l most p j:=by rw[hti1.md j hpl,if_neg hjn]
    have hX:(iL (bitsL p)).getD ((a:Int)).toNat (Ty.dflt (.int .i64))=(j:Int):=by
     show(iL (bitsL p)).getD a 0=(j:Int)
     rw[q6l,hj]
    generalize iL (bitsL p)=X at hbl hX ⊢
    (repeat (first|refine zs rfl ?_|refine zg rfl rfl rfl ?_|refine zd ?_|refine q8 ?_|refine q7 ?_|refine zmo mpW rfl rfl rfl rfl ?_|refine zmi mpW rfl rfl rfl rfl ?_|refine zmu mpW rfl rfl rfl rfl ?_|refine zmd mpW rfl rfl rfl ?_|refine zmm mpW rfl ?_|refine zne eqK rfl rfl rfl ?_))
    rw[hX]
    cases hTp:T p j with
    |none=>
     have hh:=htg1.none hTp
     refine z5 rfl (fun _=>?_) (fun h=>?_)
     ·(repeat (first|refine zs rfl ?_|refine zg rfl rfl rfl ?_|refine zd ?_|refine q8 ?_|refine q7 ?_|refine zmo mpW rfl rfl rfl rfl ?_|refine zmi mpW rfl rfl rfl rfl ?_|refine zmu mpW rfl rfl rfl rfl ?_|refine zmd mpW rfl rfl rfl ?_|refine zmm mpW rfl ?_|refine zne eqK rfl rfl rfl ?_))
      refine⟨(a+1,es1,clk1),by dsimp only;(exact z6 (by conv=>lhs;reduce)),⟨by dsimp only;omega,T,htg1,?_,?_⟩,by dsimp only;omega⟩
      ·have e:jSt P l most p T j=T:=by unfold jSt;rw[hTp]
       rw[e] at htis;exact htis
      ·have e:jSt P l most p T j=T:=by unfold jSt;rw[hTp]
       rw[e] at hTs;exact hTs
     ·have h2:(!mHas (kt:=kyT) (vt:=wyT) es1 (ky p j))=false:=h
      rw[hh] at h2;cases h2
    |some w=>
     obtain⟨hh,hg⟩:=htg1.some hTp
     refine z5 rfl (fun h=>?_) (fun _=>?_)
     ·have h2:(!mHas (kt:=kyT) (vt:=wyT) es1 (ky p j))=true:=h
      rw[hh] at h2;cases h2
     ·have hg':mGet (kt:=kyT) (vt:=wyT) es1 ((p:Int),(j:Int),Ty.dflt .nil) (Ty.dflt wyT)=w:=hg
      rw[hg']
      obtain⟨⟨b1,b2⟩,⟨b3,b4⟩,b5,b6⟩:=z2r (l:=l) (most:=most) hP hp256 (hTj.symm.trans hTp)
      obtain⟨w1,w2,w3,⟨⟩⟩:=w
      dsimp only at b1 b2 b3 b4 b5 b6
      (repeat (first|refine zs rfl ?_|refine zg rfl rfl rfl ?_|refine zd ?_|refine q8 ?_|refine q7 ?_|refine zmo mpW rfl rfl rfl rfl ?_|refine zmi mpW rfl rfl rfl rfl ?_|refine zmu mpW rfl rfl rfl rfl ?_|refine zmd mpW rfl rfl rfl ?_|refine zmm mpW rfl ?_|refine zne eqK rfl rfl rfl ?_))
      refine z5 rfl (fun he=>?_) (fun he=>?_)
      ·(simp only[↓cdL] at he;try simp only[Ty.dflt,Int.toNat_natCast] at he)
       have e:jSt P l most p T j=upT T p j none:=by unfold jSt;rw[hTp];exact if_pos he
       (repeat (first|refine zs rfl ?_|refine zg rfl rfl rfl ?_|refine zd ?_|refine q8 ?_|refine q7 ?_|refine zmo mpW rfl rfl rfl rfl ?_|refine zmi mpW rfl rfl rfl rfl ?_|refine zmu mpW rfl rfl rfl rfl ?_|refine zmd mpW rfl rfl rfl ?_|refine zmm mpW rfl ?_|refine zne eqK rfl rfl rfl ?_))
       refine⟨(a+1,mDel (kt:=kyT) (vt:=wyT) es1 (ky p j),clk1),by dsimp only;(exact z6 (by conv=>lhs;reduce)),⟨by dsimp only;omega,_,htg1.del p j,?_,?_⟩,by dsimp only;omega⟩
       ·rw[e] at htis;exact htis
       ·rw[e] at hTs;exact hTs
      ·(simp only[↓cdL] at he;try simp only[Ty.dflt,Int.toNat_natCast] at he)
       have e:jSt P l most p T j=kLp P l p j (w1,w2,w3,()) T l.length:=by unfold jSt;rw[hTp];exact if_neg he
       (repeat (first|refine zs rfl ?_|refine zg rfl rfl rfl ?_|refine zd ?_|refine q8 ?_|refine q7 ?_|refine zmo mpW rfl rfl rfl rfl ?_|refine zmi mpW rfl rfl rfl rfl ?_|refine zmu mpW rfl rfl rfl rfl ?_|refine zmd mpW rfl rfl rfl ?_|refine zmm mpW rfl ?_|refine zne eqK rfl rfl rfl ?_))
       refine JK.loop (σ:=Nat×List EnW×Nat) (fun q=>⟨[(0,vH P l),(3,.lf (.mp 1)),(4,vI most),(7,vI (p:Nat)),(9,vI (j:Int)),(10,.lf (.optr 2 [])),(54,vL X),(55,vI X.length),(56,vI (a:Int)),(82,.val (.slice ptT) l),(83,vI l.length),(84,vI (q.1:Int))],
         [(0,.fr 0 [(rg,vH P l),(0,vH P l)]),(1,.map kyT wyT q.2.1 q.2.2),(2,.cell wyT (.val wyT (w1,w2,w3,())))],3⟩)
        (fun q=>q.1≤l.length∧TG q.2.1 q.2.2 (kLp P l p j (w1,w2,w3,()) T q.1)) (fun q=>8-q.1) (0,es1,clk1) ⟨Nat.zero_le _,htg1⟩ (by(exact z6 (by conv=>lhs;reduce))) fun q hq=>?_
       obtain⟨k,es2,clk2⟩:=q
       obtain⟨hk,htg2⟩:=hq
       dsimp only at hk htg2 ⊢
       have hks:kLp P l p j (w1,w2,w3,()) T (k+1)=if p.testBit k=true then kLp P l p j (w1,w2,w3,()) T k else upT (kLp P l p j (w1,w2,w3,()) T k) (p ||| 2 ^ k) k (some (mrg (kLp P l p j (w1,w2,w3,()) T k (p ||| 2 ^ k) k) (w1+gp P l j k,w2,(j:Int),()))):=rfl
       have hkl:kLp P l p j (w1,w2,w3,()) T k (p ||| 2 ^ k) k=T (p ||| 2 ^ k) k:=by rw[q6h,if_neg (by omega)]
       rw[hkl] at hks
       have hkf:k=l.length→kLp P l p j (w1,w2,w3,()) T k=jSt P l most p T j:=fun h=>by rw[e,h]
       generalize kLp P l p j (w1,w2,w3,()) T k=Tk at htg2 hks hkl hkf
       (repeat (first|refine zs rfl ?_|refine zg rfl rfl rfl ?_|refine zd ?_|refine q8 ?_|refine q7 ?_|refine zmo mpW rfl rfl rfl rfl ?_|refine zmi mpW rfl rfl rfl rfl ?_|refine zmu mpW rfl rfl rfl rfl ?_|refine zmd mpW rfl rfl rfl ?_|refine zmm mpW rfl ?_|refine zne eqK rfl rfl rfl ?_))
       refine z5 rfl (fun hf=>?_) (fun hf=>?_)
       ·(simp only[↓cdL] at hf;try simp only[Ty.dflt,Int.toNat_natCast] at hf)
        have hk':k<l.length:=by omega
        have hbi:=j0l p k
        have hdv:=div_bd p k (by omega)
        (repeat (first|refine zs rfl ?_|refine zg rfl rfl rfl ?_|refine zd ?_|refine q8 ?_|refine q7 ?_|refine zmo mpW rfl rfl rfl rfl ?_|refine zmi mpW rfl rfl rfl rfl ?_|refine zmu mpW rfl rfl rfl rfl ?_|refine zmd mpW rfl rfl rfl ?_|refine zmm mpW rfl ?_|refine zne eqK rfl rfl rfl ?_))
        refine z5 rfl (fun hg=>?_) (fun hg=>?_)
        ·rw[if_pos (hbi.1 (beq_iff_eq.1 hg))] at hks
         (repeat (first|refine zs rfl ?_|refine zg rfl rfl rfl ?_|refine zd ?_|refine q8 ?_|refine q7 ?_|refine zmo mpW rfl rfl rfl rfl ?_|refine zmi mpW rfl rfl rfl rfl ?_|refine zmu mpW rfl rfl rfl rfl ?_|refine zmd mpW rfl rfl rfl ?_|refine zmm mpW rfl ?_|refine zne eqK rfl rfl rfl ?_))
         refine⟨(k+1,es2,clk2),by dsimp only;(exact z6 (by conv=>lhs;reduce)),⟨by dsimp only;omega,by rw[hks];exact htg2⟩,by dsimp only;omega⟩
        ·have hbf:p.testBit k=false:=Bool.eq_false_iff.2 fun h=>by rw[hbi.2 h] at hg;simp at hg
         rw[if_neg (by rw[hbf];decide)] at hks
         have hww:(2:Int) ^ k=((2 ^ k:Nat):Int):=by push_cast;rfl
         have hwp:2 ^ k<2 ^ l.length:=Nat.pow_lt_pow_right (by omega) hk'
         have hwb:0≤(2:Int) ^ ((k:Int)).toNat∧(2:Int) ^ ((k:Int)).toNat≤65536:=by rw[Int.toNat_natCast,hww];exact⟨Int.natCast_nonneg _,Int.ofNat_le.2 (show 2 ^ k≤65536 by omega)⟩
         have hor:(((p:Int).toNat ||| ((1:Int)*2 ^ ((k:Int)).toNat).toNat:Nat):Int)=((p ||| 2 ^ k:Nat):Int):=by
          rw[Int.toNat_natCast,Int.toNat_natCast,Int.one_mul,hww,Int.toNat_natCast]
         have hol:p ||| 2 ^ k<2 ^ l.length:=Nat.or_lt_two_pow hpl hwp
         have hTq:T (p ||| 2 ^ k) k=foldC P l most (ent P l most p) k ((bitsL p).take a):=by
          have hk0:k≠0:=fun h=>by rw[h,q58.2 hpo] at hbf;cases hbf
          rw[hti1.hi _ k (or_odd hpo) (or_gt hbf) hol,if_pos ⟨hk0,z7q,or_xor hbf⟩]
         have hTb:∀ v,T (p ||| 2 ^ k) k=some v→wB 9 134217728 v:=fun v hv=>z9g hP hp256 (fun i hi=>(x6.1 (List.mem_of_mem_take hi)).1) (by rw[List.length_take];omega) (hTq.symm.trans hv)
         have c65:=fn26 P l j k hP hl hjl hk'
         have hgb:=q7l (l:=l) hP.1 j k
         generalize gp P l j k=g at c65 hgb hks
         (repeat (first|refine zs rfl ?_|refine zg rfl rfl rfl ?_|refine q8 ?_|refine q7 ?_|refine zmo mpW rfl rfl rfl rfl ?_|refine zmi mpW rfl rfl rfl rfl ?_|refine zmu mpW rfl rfl rfl rfl ?_|refine zmd mpW rfl rfl rfl ?_|refine zmm mpW rfl ?_|refine zne eqK rfl rfl rfl ?_))
         rw[hor]
         refine q7e xk (Tryz.f72.body.getD .skip) ⟨[(0,vH P l),(3,.lf (.mp 1)),(4,vI most),(7,vI (p:Nat)),(9,vI (j:Int)),(10,.lf (.optr 2 [])),(13,.lf (.optr 3 [])),(14,.lf (.optr 4 [])),(54,vL X),(55,vI X.length),(56,vI (a:Int)),(82,.val (.slice ptT) l),(83,vI l.length),(84,vI (k:Int))],
         [(0,.fr 0 [(rg,vH P l),(0,vH P l)]),(1,.map kyT wyT es2 clk2),(2,.cell wyT (.val wyT (w1,w2,w3,()))),(3,.cell kyT (.val kyT (ky (p ||| 2 ^ k) k))),(4,.cell wyT (.val wyT (w1+g,w2,(j:Int),())))],5⟩ rfl 13 rfl ?_ ?_
         ·(refine j0 0 xk rfl rfl ?_;refine j0 2 xk rfl rfl ?_;refine j0 3 xk rfl rfl ?_;refine j0 4 xk rfl rfl ?_;refine j0 7 xk rfl rfl ?_;refine j0 9 xk rfl rfl ?_;refine k7 1 xk rfl rfl ?_;refine k7 8 xk rfl rfl ?_;refine k8 5 [11] xk ?_ ?_;(focus (repeat (first|exact StF.nil|refine x4 rfl rfl rfl ?_)));refine(BrF.one rfl rfl ?_ (BrF.one rfl rfl ?_ BrF.nil));(· (first|refine r7 xk rfl rfl ?_|refine o5 xk rfl rfl ?_|refine JL.M0 xk rfl ?_|refine x3 mpW rfl rfl rfl rfl ?_|refine y8 mpW rfl ?_|refine p8 eqK rfl rfl rfl ?_|refine q3c rfl (c65) rfl trivial rfl ?_|refine q3d rfl (c65) rfl (fun r hr=>?_);subst hr);refine y6 ?_;refine k7 6 xk rfl rfl ?_;refine k8 10 [11] xk ?_ ?_;(focus (repeat (first|exact StF.nil|refine x4 rfl rfl rfl ?_)));refine(BrF.one rfl rfl ?_ (BrF.one rfl rfl ?_ BrF.nil));(· (first|refine r7 xk rfl rfl ?_|refine o5 xk rfl rfl ?_|refine JL.M0 xk rfl ?_|refine x3 mpW rfl rfl rfl rfl ?_|refine y8 mpW rfl ?_|refine p8 eqK rfl rfl rfl ?_|refine q3c rfl (c65) rfl trivial rfl ?_|refine q3d rfl (c65) rfl (fun r hr=>?_);subst hr);refine y6 ?_;refine k8 11 [] xk ?_ ?_;(focus (repeat (first|exact StF.nil|refine x4 rfl rfl rfl ?_)));refine(BrF.one rfl rfl ?_ BrF.nil);(· (first|refine r7 xk rfl rfl ?_|refine o5 xk rfl rfl ?_|refine JL.M0 xk rfl ?_|refine x3 mpW rfl rfl rfl rfl ?_|refine y8 mpW rfl ?_|refine p8 eqK rfl rfl rfl ?_|refine q3c rfl (c65) rfl trivial rfl ?_|refine q3d rfl (c65) rfl (fun r hr=>?_);subst hr);refine y6 ?_;refine k8 12 [] xk ?_ ?_;(focus (repeat (first|exact StF.nil|refine x4 rfl rfl rfl ?_)));refine(BrF.one rfl rfl ?_ BrF.nil);(· (first|refine r7 xk rfl rfl ?_|refine o5 xk rfl rfl ?_|refine JL.M0 xk rfl ?_|refine x3 mpW rfl rfl rfl rfl ?_|refine y8 mpW rfl ?_|refine p8 eqK rfl rfl rfl ?_|refine q3c rfl (c65) rfl trivial rfl ?_|refine q3d rfl (c65) rfl (fun r hr=>?_);subst hr);refine y6 ?_;refine q0p xk StF.nil ?_;((exact z6 (by conv=>lhs;reduce))))));(· (first|refine r7 xk rfl rfl ?_|refine o5 xk rfl rfl ?_|refine JL.M0 xk rfl ?_|refine x3 mpW rfl rfl rfl rfl ?_|refine y8 mpW rfl ?_|refine p8 eqK rfl rfl rfl ?_|refine q3c rfl (c65) rfl trivial rfl ?_|refine q3d rfl (c65) rfl (fun r hr=>?_);subst hr);refine y6 ?_;refine k8 10 [] xk ?_ ?_;(focus (repeat (first|exact StF.nil|refine x4 rfl rfl rfl ?_)));refine(BrF.one rfl rfl ?_ BrF.nil);(· (first|refine r7 xk rfl rfl ?_|refine o5 xk rfl rfl ?_|refine JL.M0 xk rfl ?_|refine x3 mpW rfl rfl rfl rfl ?_|refine y8 mpW rfl ?_|refine p8 eqK rfl rfl rfl ?_|refine q3c rfl (c65) rfl trivial rfl ?_|refine q3d rfl (c65) rfl (fun r hr=>?_);subst hr);refine y6 ?_;refine k8 12 [] xk ?_ ?_;(focus (repeat (first|exact StF.nil|refine x4 rfl rfl rfl ?_)));refine(BrF.one rfl rfl ?_ BrF.nil);(· (first|refine r7 xk rfl rfl ?_|refine o5 xk rfl rfl ?_|refine JL.M0 xk rfl ?_|refine x3 mpW rfl rfl rfl rfl ?_|refine y8 mpW rfl ?_|refine p8 eqK rfl rfl rfl ?_|refine q3c rfl (c65) rfl trivial rfl ?_|refine q3d rfl (c65) rfl (fun r hr=>?_);subst hr);refine y6 ?_;refine q0p xk StF.nil ?_;((exact z6 (by conv=>lhs;reduce)))))));(· (first|refine r7 xk rfl rfl ?_|refine o5 xk rfl rfl ?_|refine JL.M0 xk rfl ?_|refine x3 mpW rfl rfl rfl rfl ?_|refine y8 mpW rfl ?_|refine p8 eqK rfl rfl rfl ?_|refine q3c rfl (c65) rfl trivial rfl ?_|refine q3d rfl (c65) rfl (fun r hr=>?_);subst hr);refine y6 ?_;refine k8 5 [] xk ?_ ?_;(focus (repeat (first|exact StF.nil|refine x4 rfl rfl rfl ?_)));refine(BrF.one rfl rfl ?_ BrF.nil);(· (first|refine r7 xk rfl rfl ?_|refine o5 xk rfl rfl ?_|refine JL.M0 xk rfl ?_|refine x3 mpW rfl rfl rfl rfl ?_|refine y8 mpW rfl ?_|refine p8 eqK rfl rfl rfl ?_|refine q3c rfl (c65) rfl trivial rfl ?_|refine q3d rfl (c65) rfl (fun r hr=>?_);subst hr);refine y6 ?_;refine k7 6 xk rfl rfl ?_;refine k8 10 [] xk ?_ ?_;(focus (repeat (first|exact StF.nil|refine x4 rfl rfl rfl ?_)));refine(BrF.one rfl rfl ?_ BrF.nil);(· (first|refine r7 xk rfl rfl ?_|refine o5 xk rfl rfl ?_|refine JL.M0 xk rfl ?_|refine x3 mpW rfl rfl rfl rfl ?_|refine y8 mpW rfl ?_|refine p8 eqK rfl rfl rfl ?_|refine q3c rfl (c65) rfl trivial rfl ?_|refine q3d rfl (c65) rfl (fun r hr=>?_);subst hr);refine y6 ?_;refine k8 12 [] xk ?_ ?_;(focus (repeat (first|exact StF.nil|refine x4 rfl rfl rfl ?_)));refine(BrF.one rfl rfl ?_ BrF.nil);(· (first|refine r7 xk rfl rfl ?_|refine o5 xk rfl rfl ?_|refine JL.M0 xk rfl ?_|refine x3 mpW rfl rfl rfl rfl ?_|refine y8 mpW rfl ?_|refine p8 eqK rfl rfl rfl ?_|refine q3c rfl (c65) rfl trivial rfl ?_|refine q3d rfl (c65) rfl (fun r hr=>?_);subst hr);refine y6 ?_;refine q0p xk StF.nil ?_;((exact z6 (by conv=>lhs;reduce))))))))
         (repeat (first|refine zs rfl ?_|refine zg rfl rfl rfl ?_|refine zd ?_|refine q8 ?_|refine q7 ?_|refine zmo mpW rfl rfl rfl rfl ?_|refine zmi mpW rfl rfl rfl rfl ?_|refine zmu mpW rfl rfl rfl rfl ?_|refine zmd mpW rfl rfl rfl ?_|refine zmm mpW rfl ?_|refine zne eqK rfl rfl rfl ?_))
         rw[← hkl] at hTb hks
         cases hTk:Tk (p ||| 2 ^ k) k with
         |none=>
          have hh:=htg2.none hTk
          rw[hh]
          rw[hTk] at hks
          refine z5 rfl (fun h=>by cases h) (fun _=>?_)
          (repeat (first|refine zs rfl ?_|refine zg rfl rfl rfl ?_|refine zd ?_|refine q8 ?_|refine q7 ?_|refine zmo mpW rfl rfl rfl rfl ?_|refine zmi mpW rfl rfl rfl rfl ?_|refine zmu mpW rfl rfl rfl rfl ?_|refine zmd mpW rfl rfl rfl ?_|refine zmm mpW rfl ?_|refine zne eqK rfl rfl rfl ?_))
          refine z5 rfl (fun h=>by cases h) (fun _=>?_)
          (repeat (first|refine zs rfl ?_|refine zg rfl rfl rfl ?_|refine zd ?_|refine q8 ?_|refine q7 ?_|refine zmo mpW rfl rfl rfl rfl ?_|refine zmi mpW rfl rfl rfl rfl ?_|refine zmu mpW rfl rfl rfl rfl ?_|refine zmd mpW rfl rfl rfl ?_|refine zmm mpW rfl ?_|refine zne eqK rfl rfl rfl ?_))
          refine⟨(k+1,mPut (kt:=kyT) (vt:=wyT) es2 clk2 (ky (p ||| 2 ^ k) k) (w1+g,w2,(j:Int),()),mClk (kt:=kyT) (vt:=wyT) es2 clk2 (ky (p ||| 2 ^ k) k)),by dsimp only;(exact z6 (by conv=>lhs;reduce)),⟨by dsimp only;omega,?_⟩,by dsimp only;omega⟩
          have:=htg2.put (p ||| 2 ^ k) k (w1+g,w2,(j:Int),())
          rw[hks];exact this
         |some c=>
          obtain⟨hh,hg2⟩:=htg2.some hTk
          have hcb:=hTb c hTk
          rw[hTk] at hks
          rw[hh,hg2]
          obtain⟨c1,c2,c3,⟨⟩⟩:=c
          obtain⟨⟨d1,d2⟩,⟨d3,d4⟩,d5,d6⟩:=hcb
          dsimp only at d1 d2 d3 d4 d5 d6
          refine z5 rfl (fun hm=>?_) (fun hm=>?_)
          ·have hm':c1=w1+g:=beq_iff_eq.1 hm
           have hmr:mrg (some (c1,c2,c3,())) (w1+g,w2,(j:Int),())=(w1+g,w2+c2,c3,()):=by
            show(if c1=w1+g then(w1+g,w2+c2,c3,()) else _)=_
            rw[if_pos hm']
           rw[hmr] at hks
           (repeat (first|refine zs rfl ?_|refine zg rfl rfl rfl ?_|refine q8 ?_|refine q7 ?_|refine zmo mpW rfl rfl rfl rfl ?_|refine zmi mpW rfl rfl rfl rfl ?_|refine zmu mpW rfl rfl rfl rfl ?_|refine zmd mpW rfl rfl rfl ?_|refine zmm mpW rfl ?_|refine zne eqK rfl rfl rfl ?_))
           refine q9v xk (Tryz.f72.body.getD .skip) ⟨[(0,vH P l),(3,.lf (.mp 1)),(4,vI most),(7,vI (p:Nat)),(9,vI (j:Int)),(10,.lf (.optr 2 [])),(13,.lf (.optr 3 [])),(14,.lf (.optr 4 [])),(54,vL X),(55,vI X.length),(56,vI (a:Int)),(82,.val (.slice ptT) l),(83,vI l.length),(84,vI (k:Int))],
            [(0,.fr 0 [(rg,vH P l),(0,vH P l)]),(1,.map kyT wyT es2 clk2),(2,.cell wyT (.val wyT (w1,w2,w3,()))),(3,.cell kyT (.val kyT (ky (p ||| 2 ^ k) k))),(4,.cell wyT (.val wyT (w1+g,w2+c2,c3,())))],5⟩ rfl 11 rfl ?_ ?_
           ·(refine j0 0 xk rfl rfl ?_;refine j0 2 xk rfl rfl ?_;refine j0 5 xk rfl rfl ?_;refine k7 1 xk rfl rfl ?_;refine k7 3 xk rfl rfl ?_;refine k7 4 xk rfl rfl ?_;refine k7 6 xk rfl rfl ?_;refine k7 7 xk rfl rfl ?_;refine k8 8 [] xk ?_ ?_;(focus (repeat (first|exact StF.nil|refine x4 rfl rfl rfl ?_)));refine(BrF.one rfl rfl ?_ BrF.nil);(· (first|refine r7 xk rfl rfl ?_|refine o5 xk rfl rfl ?_|refine JL.M0 xk rfl ?_|refine x3 mpW rfl rfl rfl rfl ?_|refine y8 mpW rfl ?_|refine p8 eqK rfl rfl rfl ?_);refine y6 ?_;refine k7 9 xk rfl rfl ?_;refine k8 10 [] xk ?_ ?_;(focus (repeat (first|exact StF.nil|refine x4 rfl rfl rfl ?_)));refine(BrF.one rfl rfl ?_ BrF.nil);(· (first|refine r7 xk rfl rfl ?_|refine o5 xk rfl rfl ?_|refine JL.M0 xk rfl ?_|refine x3 mpW rfl rfl rfl rfl ?_|refine y8 mpW rfl ?_|refine p8 eqK rfl rfl rfl ?_);refine y6 ?_;refine q0p xk StF.nil ?_;((exact z6 (by conv=>lhs;reduce))))))
           (repeat (first|refine zs rfl ?_|refine zg rfl rfl rfl ?_|refine zd ?_|refine q8 ?_|refine q7 ?_|refine zmo mpW rfl rfl rfl rfl ?_|refine zmi mpW rfl rfl rfl rfl ?_|refine zmu mpW rfl rfl rfl rfl ?_|refine zmd mpW rfl rfl rfl ?_|refine zmm mpW rfl ?_|refine zne eqK rfl rfl rfl ?_))
           refine⟨(k+1,mPut (kt:=kyT) (vt:=wyT) es2 clk2 (ky (p ||| 2 ^ k) k) (w1+g,w2+c2,c3,()),mClk (kt:=kyT) (vt:=wyT) es2 clk2 (ky (p ||| 2 ^ k) k)),by dsimp only;(exact z6 (by conv=>lhs;reduce)),⟨by dsimp only;omega,?_⟩,by dsimp only;omega⟩
           have:=htg2.put (p ||| 2 ^ k) k (w1+g,w2+c2,c3,())
           rw[hks];exact this
          ·have hm':¬ c1=w1+g:=beq_eq_false_iff_ne.1 hm
           (repeat (first|refine zs rfl ?_|refine zg rfl rfl rfl ?_|refine zd ?_|refine q8 ?_|refine q7 ?_|refine zmo mpW rfl rfl rfl rfl ?_|refine zmi mpW rfl rfl rfl rfl ?_|refine zmu mpW rfl rfl rfl rfl ?_|refine zmd mpW rfl rfl rfl ?_|refine zmm mpW rfl ?_|refine zne eqK rfl rfl rfl ?_))
           refine z5 rfl (fun hn=>?_) (fun hn=>?_)
           ·have hn':c1<w1+g:=of_decide_eq_true hn
            have hmr:mrg (some (c1,c2,c3,())) (w1+g,w2,(j:Int),())=(c1,c2,c3,()):=by
             show(if c1=w1+g then(w1+g,w2+c2,c3,()) else if c1<w1+g then(c1,c2,c3,()) else _)=_
             rw[if_neg hm',if_pos hn']
            rw[hmr] at hks
            (repeat (first|refine zs rfl ?_|refine zg rfl rfl rfl ?_|refine zd ?_|refine q8 ?_|refine q7 ?_|refine zmo mpW rfl rfl rfl rfl ?_|refine zmi mpW rfl rfl rfl rfl ?_|refine zmu mpW rfl rfl rfl rfl ?_|refine zmd mpW rfl rfl rfl ?_|refine zmm mpW rfl ?_|refine zne eqK rfl rfl rfl ?_))
            refine⟨(k+1,mPut (kt:=kyT) (vt:=wyT) es2 clk2 (ky (p ||| 2 ^ k) k) (c1,c2,c3,()),mClk (kt:=kyT) (vt:=wyT) es2 clk2 (ky (p ||| 2 ^ k) k)),by dsimp only;(exact z6 (by conv=>lhs;reduce)),⟨by dsimp only;omega,?_⟩,by dsimp only;omega⟩
            have:=htg2.put (p ||| 2 ^ k) k (c1,c2,c3,())
            rw[hks];exact this
           ·have hn':¬ c1<w1+g:=of_decide_eq_false hn
            have hmr:mrg (some (c1,c2,c3,())) (w1+g,w2,(j:Int),())=(w1+g,w2,(j:Int),()):=by
             show(if c1=w1+g then(w1+g,w2+c2,c3,()) else if c1<w1+g then(c1,c2,c3,()) else(w1+g,w2,(j:Int),()))=_
             rw[if_neg hm',if_neg hn']
            rw[hmr] at hks
            (repeat (first|refine zs rfl ?_|refine zg rfl rfl rfl ?_|refine zd ?_|refine q8 ?_|refine q7 ?_|refine zmo mpW rfl rfl rfl rfl ?_|refine zmi mpW rfl rfl rfl rfl ?_|refine zmu mpW rfl rfl rfl rfl ?_|refine zmd mpW rfl rfl rfl ?_|refine zmm mpW rfl ?_|refine zne eqK rfl rfl rfl ?_))
            refine⟨(k+1,mPut (kt:=kyT) (vt:=wyT) es2 clk2 (ky (p ||| 2 ^ k) k) (w1+g,w2,(j:Int),()),mClk (kt:=kyT) (vt:=wyT) es2 clk2 (ky (p ||| 2 ^ k) k)),by dsimp only;(exact z6 (by conv=>lhs;reduce)),⟨by dsimp only;omega,?_⟩,by dsimp only;omega⟩
            have:=htg2.put (p ||| 2 ^ k) k (w1+g,w2,(j:Int),())
            rw[hks];exact this
       ·(simp only[↓cdL] at hf;try simp only[Ty.dflt,Int.toNat_natCast] at hf)
        have hkk:=hkf (by omega)
        (repeat (first|refine zs rfl ?_|refine zg rfl rfl rfl ?_|refine zd ?_|refine q8 ?_|refine q7 ?_|refine zmo mpW rfl rfl rfl rfl ?_|refine zmi mpW rfl rfl rfl rfl ?_|refine zmu mpW rfl rfl rfl rfl ?_|refine zmd mpW rfl rfl rfl ?_|refine zmm mpW rfl ?_|refine zne eqK rfl rfl rfl ?_))
        refine⟨(a+1,es2,clk2),by dsimp only;(exact z6 (by conv=>lhs;reduce)),⟨by dsimp only;omega,Tk,htg2,?_,?_⟩,by dsimp only;omega⟩
        ·rw[hkk];exact htis
        ·rw[hkk];exact hTs
   ·(simp only[↓cdL] at hd;try simp only[Ty.dflt,Int.toNat_natCast] at hd)
    have hae:a=(bitsL p).length:=by omega
    rw[hae,List.take_length] at hT
    rw[← hnx] at hT
    subst hT
    (repeat (first|refine zs rfl ?_|refine zg rfl rfl rfl ?_|refine zd ?_|refine q8 ?_|refine q7 ?_|refine zmo mpW rfl rfl rfl rfl ?_|refine zmi mpW rfl rfl rfl rfl ?_|refine zmu mpW rfl rfl rfl rfl ?_|refine zmd mpW rfl rfl rfl ?_|refine zmm mpW rfl ?_|refine zne eqK rfl rfl rfl ?_))
    refine⟨(pi+1,es1,clk1),?_,⟨by dsimp only;omega,htg1⟩,by dsimp only;omega⟩
    dsimp only
    rw[show((2*(pi+1)+1:Nat):Int)=((p:Nat):Int)+2 by omega]
    (exact z6 (by conv=>lhs;reduce))
  ·(simp only[↓cdL] at hc;try simp only[Ty.dflt,Int.toNat_natCast] at hc)
   rw[hend (by omega)] at htg
   (repeat (first|refine zs rfl ?_|refine zg rfl rfl rfl ?_|refine zd ?_|refine q8 ?_|refine q7 ?_|refine zmo mpW rfl rfl rfl rfl ?_|refine zmi mpW rfl rfl rfl rfl ?_|refine zmu mpW rfl rfl rfl rfl ?_|refine zmd mpW rfl rfl rfl ?_|refine zmm mpW rfl ?_|refine zne eqK rfl rfl rfl ?_))
   refine z32 rfl rfl rfl rfl ?_
   exact hR es clk htg
end Go.Proofs.YtjfafggkkjgpeaaGreatDoor
