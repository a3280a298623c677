/- Texts of the proof of the statement that the last text proves. -/
import Derived.Test.YtjjkdjbbkagclaaGreatDoorDaf
set_option linter.all false
set_option maxHeartbeats 2000000
variable{w1:Go.World}{cs:List Prop}{d:Int}{P:Go.Program}{o:List Int}{k:Nat}{b g:Bool}{V:Go.Value}{f:Go.FuncId}
namespace Go.Proofs.YtjjkdjbbkagclaaGreatDoor
open Go Go.RowKit Ox Ox.Gl
attribute [local irreducible] JC JL JK JW
structure okB(D:List DrD):Prop where
 n1:1≤D.length
 n40:D.length≤40
 ok:∀ q∈D,okDr q
 s:(1≤(sumD D D.length).1∧(sumD D D.length).1≤100000)∧1≤(sumD D D.length).2.1∧(sumD D D.length).2.1≤100000
abbrev vT2t(D:List DrD):AV:=.tup (.acons (pTa D (sumD D D.length)) (.acons (vI 0) .anil))
variable{D:List DrD}
def fn35(h:okB D):Ox.Fn Tryz.prog 35 (.acons (vBa D) .anil) (·=vT2t D):=by
 refine Ox.Fn.intro xok Tryz.func35 rfl Tryz.call35 (yyd rfl) (fun E M0 up=>?_);refine z7 ?_;have c75:=fn75 D h.n40 h.ok;have c76:=fn76 D h.n40 h.ok h.s;obtain⟨e,he⟩:∃ e:Int,e=0:=⟨0,rfl⟩;rw[← he] at c75
 (repeat (first|refine zs rfl ?_|refine zg rfl rfl rfl ?_|refine zd ?_|refine k9 ?_|refine k8 ?_|refine zc rfl (c75) rfl rfl ?_|refine ze rfl (c75) rfl ?_|refine zk rfl rfl (fun _=>c75) rfl rfl ?_))
 refine z5 rfl (fun h=>absurd h (by simp[he])) (fun _=>?_)
 (repeat (first|refine zs rfl ?_|refine zg rfl rfl rfl ?_|refine zd ?_|refine k9 ?_|refine k8 ?_|refine zc rfl (c76) rfl rfl ?_|refine ze rfl (c76) rfl ?_|refine zk rfl rfl (fun _=>c76) rfl rfl ?_))
 refine⟨.inl rfl,_,_,rfl,trivial,?_⟩;rfl
def fn14(h:okB D):Ox.Fn Tryz.prog 14 (.acons (vBa D) (.acons (vI 0) .anil)) (·=vT2r (sumD D D.length) 0):=by
 refine Ox.Fn.intro xok Tryz.func14 rfl Tryz.call14 (yyd rfl) (fun E M0 up=>?_);refine z7 ?_;have c35:=fn35 h;obtain⟨b,hb⟩:∃ b,b=true:=⟨true,rfl⟩;have c36:=fn36 D (sumD D D.length) hb;refine zK23 ?_;refine z5 rfl (fun h=>absurd h (by decide)) (fun _=>?_)
 (repeat (first|refine zs rfl ?_|refine zg rfl rfl rfl ?_|refine zd ?_|refine k9 ?_|refine k8 ?_|refine zc rfl (c36) rfl rfl ?_|refine ze rfl (c36) rfl ?_|refine zk rfl rfl (fun _=>c36) rfl rfl ?_))
 refine z5 rfl (fun h=>absurd h (by simp[hb])) (fun _=>?_);refine zK0 ?_;refine⟨.inl rfl,_,_,rfl,trivial,?_⟩;rfl
def fn38(s:Int):Ox.Fn Tryz.prog 38 (.acons (vI s) .anil) (·=.fn 39 .anil (.acons (pI s) .anil)):=by
 refine Ox.Fn.intro xok Tryz.func38 rfl Tryz.call38 (yyd rfl) (fun E M0 up=>?_);refine z7 ?_;refine zK0 ?_;refine z2j ?_
 (refine z08 [0] [1] rfl ?_)
 refine zK0 ?_;refine⟨.inl rfl,_,_,rfl,trivial,?_⟩;rfl
def fn15(h:okB D){x y:Int}(h0:0≤x)(hxy:y=x+1)(hy:y<D.length):Ox.Fn Tryz.prog 15 (.acons (vBa D) (.acons (vI x) (.acons (vI y) .anil))) (·=.tup (.acons (vI 2) (.acons (vI 0) .anil))):=by
 refine Ox.Fn.intro xok Tryz.func15 rfl Tryz.call15 (yyd rfl) (fun E M0 up=>?_);refine z7 ?_;have c35:=fn35 h;have hl:=h.n40;obtain⟨u,hu⟩:∃ u,u=true:=⟨true,rfl⟩;have c37:=z71 (lo:=0) (hi:=(D.length:Int)-1) (xs:=x::y::List.nil) hu (by simp;omega);refine zK23 ?_;refine z5 rfl (fun h=>absurd h (by decide)) (fun _=>?_)
 (repeat (first|refine zs rfl ?_|refine zg rfl rfl rfl ?_|refine zd ?_|refine k9 ?_|refine k8 ?_|refine zc rfl (c37) rfl rfl ?_|refine ze rfl (c37) rfl ?_|refine zk rfl rfl (fun _=>c37) rfl rfl ?_))
 refine z5 rfl (fun h=>absurd h (by simp[hu,show ¬ x=y from by omega])) (fun _=>?_)
 refine zK3 ?_;rw[show min x y=x by omega,show max x y=y by omega];have e0:(D.getD (Int.toNat x) drT.dflt).1=0:=by have:=(h.ok (D.getD x.toNat drZ) (by rw[j7 D (by omega)];exact yy5 (by omega))).1;exact this
 have e1:(D.getD (Int.toNat y) drT.dflt).1=0:=by have:=(h.ok (D.getD y.toNat drZ) (by rw[j7 D (by omega)];exact yy5 (by omega))).1;exact this
 refine v9 xk (Tryz.f15.body.getD .skip) ⟨[(3,.lf (.optr 0 [])),(10,vI x),(11,vI y),(12,.fn 38 .anil .anil),(13,vI (D.getD (Int.toNat x) drT.dflt).1),(14,vI (D.getD (Int.toNat y) drT.dflt).1)],[(0,.cell baT (vBa D))],1⟩ rfl 14 rfl ?_ ?_
 ·(refine q7 0 xk rfl rfl (q7 2 xk rfl rfl (q7 6 xk rfl rfl (q7 8 xk rfl rfl (q8 1 xk rfl rfl (q8 3 xk rfl rfl (q8 4 xk rfl rfl (q8 5 xk rfl rfl (q8 7 xk rfl rfl (q8 9 xk rfl rfl (q8 10 xk rfl rfl (q8 11 xk rfl rfl (q8 12 xk rfl rfl (q8 13 xk rfl rfl ?_)))))))))))));refine w7 xk ?_ ?_;exact zS;(exact zJ))
 rw[e0,e1];obtain⟨b,hb⟩:∃ b,b=false:=⟨false,rfl⟩;have hsl:List.drop (Int.toNat (x+1)) (List.take (Int.toNat y) D)=[]:=by rw[hxy,List.drop_eq_nil_of_le];rw[yxi];omega
 have c38:=fn38 0;have c40:=fn40 (f:=39) (t1:=.ptr (.int .i64)) (x1:=some (0:Int)) hb (List.drop (Int.toNat (x+1)) (List.take (Int.toNat y) D)) (fun q hq=>by rw[hsl] at hq;exact absurd hq yxg);clear e0 e1 c35;have hw:wantB true ((0:Int)==0)=true:=rfl;refine zK3 ?_;refine v9 xk (Tryz.f15.body.getD .skip) ⟨[(57,vB (bif ((0:Int)==0) then !b else false))],[],0⟩ rfl 17 rfl ?_ ?_
 ·(refine q7 0 xk rfl rfl (q7 1 xk rfl rfl (q7 2 xk rfl rfl (q7 3 xk rfl rfl (n6 4 xk rfl rfl rfl rfl (n6 6 xk rfl rfl rfl rfl (n6 7 xk rfl rfl rfl rfl (n6 8 xk rfl rfl rfl rfl (n6 10 xk rfl rfl rfl rfl (n6 11 xk rfl rfl rfl rfl ?_)))))))));refine v6 5 [12] xk StF.nil (BrF.one rfl rfl ?_ (BrF.one rfl rfl ?_ BrF.nil));(· (refine x9 xk rfl rfl rfl ?_);refine q9 ?_;refine n6 9 xk rfl rfl rfl rfl (zU 12 xk rfl rfl ?_);((refine q7f rfl rfl ?_;refine q5i rfl c38 rfl (fun r hr=>?_);subst hr));refine q9 ?_;refine zU 13 xk rfl rfl ?_;((refine q7f rfl rfl ?_;refine q5h rfl c40 rfl trivial rfl ?_));refine q9 ?_;refine n6 14 xk rfl rfl rfl rfl (q7 15 xk rfl rfl (q7 16 xk rfl rfl ?_));refine w7 xk StF.nil ?_;(exact zJ));(· ((refine q7f rfl rfl ?_;refine q5i rfl c38 rfl (fun r hr=>?_);subst hr));refine q9 ?_;refine zU 5 xk rfl rfl ?_;(refine x9 xk rfl rfl rfl ?_);refine q9 ?_;refine n6 9 xk rfl rfl rfl rfl (zU 13 xk rfl rfl ?_);((refine q7f rfl rfl ?_;refine q5h rfl c40 rfl trivial rfl ?_));refine q9 ?_;refine n6 14 xk rfl rfl rfl rfl (q7 15 xk rfl rfl (q7 16 xk rfl rfl ?_));refine w7 xk StF.nil ?_;(exact zJ)))
 refine z5 rfl (fun _=>?_) (fun h=>absurd h (by rw[hb];decide));refine zK0 ?_;refine⟨.inl rfl,_,_,rfl,trivial,?_⟩;rfl
end Go.Proofs.YtjjkdjbbkagclaaGreatDoor
namespace Go.Proofs.YtjjkdjbbkagclaaGreatDoor
open Go Go.RowKit Ox Ox.Gl
def dropL(d:Int)(cs:List CoD)(o:List Int)(k:Nat):List DrD:=(List.range k).map fun j=>(0,sprD d (cs.getD (o.getD j 0).toNat coZ) j,())
def z0n(d:Int)(cs:List CoD)(o:List Int)(k:Nat):(dropL d cs o k).length=k:=by simp[dropL]
def z4z(d:Int)(cs:List CoD)(o:List Int)(k:Nat):dropL d cs o (k+1)=dropL d cs o k++[(0,sprD d (cs.getD (o.getD k 0).toNat coZ) k,())]:=by unfold dropL;rw[List.range_succ,yxv];rfl
variable{cs:List CoD}
def q65{n j:Nat}(h:j<n):(dropL d cs o n).getD j drZ=(0,sprD d (cs.getD (o.getD j 0).toNat coZ) j,()):=by simp[dropL,List.getD,h]
def sumC(d:Int)(cs:List CoD)(n:Nat):RgD:=(sumR (fun k=>sLo (cs.getD k coZ)-(k:Int)*d) n,sumR (fun k=>sHi (cs.getD k coZ)-(k:Int)*d) n,())
def sum_drop(ho:isO cs.length o):sumD (dropL d cs o cs.length) cs.length=sumC d cs cs.length:=by
 unfold sumD sumC;have e1:=q7p ho (fun x=>sLo (cs.getD x.toNat coZ)) d;have e2:=q7p ho (fun x=>sHi (cs.getD x.toNat coZ)) d;simp only[Int.toNat_natCast] at e1 e2;have f1:=q4y (n:=cs.length) (f:=fun k=>((dropL d cs o cs.length).getD k drZ).2.1.1) (g:=fun k=>sLo (cs.getD (o.getD k 0).toNat coZ)-(k:Int)*d) fun k hk=>by show((dropL d cs o cs.length).getD k drZ).2.1.1=_;rw[q65 hk];rfl
 have f2:=q4y (n:=cs.length) (f:=fun k=>((dropL d cs o cs.length).getD k drZ).2.1.2.1) (g:=fun k=>sHi (cs.getD (o.getD k 0).toNat coZ)-(k:Int)*d) fun k hk=>by show((dropL d cs o cs.length).getD k drZ).2.1.2.1=_;rw[q65 hk];rfl
 rw[f1,f2,e1,e2]
def sprD_bd{ps:List (List Int)}(h:VG d cs ps){c k:Nat}(hc:c<cs.length)(hk:k<cs.length):(sprD d (cs.getD c coZ) k).1≤(sprD d (cs.getD c coZ) k).2.1∧(sprD d (cs.getD c coZ) k).2.1≤1000∧-1000≤(sprD d (cs.getD c coZ) k).1:=by obtain⟨⟨k1,k2,k3⟩,_⟩:=q37 h hc;have h1:=h.n10;have h2:=h.d1;have h3:=h.d100;have:0≤(k:Int)*d:=Int.mul_nonneg (by omega) (by omega);have h4:(k:Int)*d≤10*100:=Int.mul_le_mul (by omega) h3 (by omega) (by omega);show sLo _-(k:Int)*d≤sHi _-(k:Int)*d∧sHi _-(k:Int)*d≤1000∧-1000≤sLo _-(k:Int)*d;omega
def drop_okB{ps:List (List Int)}(h:VG d cs ps)(ho:isO cs.length o)(h1:∀ j,j<cs.length→1≤(sprD d (cs.getD (o.getD j 0).toNat coZ) j).1):okB (dropL d cs o cs.length):=by
 have hl:=z0n d cs o cs.length;have n1:=h.n1;have n10:=h.n10;have hol:=ho.len;have hj:∀ j,j<cs.length→okDr ((dropL d cs o cs.length).getD j drZ)∧((dropL d cs o cs.length).getD j drZ).2.1.2.1≤1000:=fun j hj=>by rw[q65 hj];have hg:=ho.get (i:=j) (by omega);have hb:=sprD_bd h (c:=(o.getD j 0).toNat) (k:=j) (by omega) hj;exact⟨⟨rfl,h1 j hj,hb.1,Int.le_trans hb.2.1 (by decide)⟩,hb.2.1⟩
 refine⟨by omega,by omega,fun q hq=>?_,?_⟩
 ·obtain⟨j,j1,j2⟩:=yxt.1 hq;have:=(hj j (by omega)).1;rw[j7 _ j1,j2] at this;exact this
 ·rw[hl];have a1:=q3c (f:=fun k=>((dropL d cs o cs.length).getD k drZ).2.1.1) (b:=1) (n:=cs.length) fun k hk=>(hj k hk).1.2.1;have a2:=q3b (f:=fun k=>((dropL d cs o cs.length).getD k drZ).2.1.1) (b:=1000) (n:=cs.length) fun k hk=>Int.le_trans (hj k hk).1.2.2.1 (hj k hk).2;have a3:=q3c (f:=fun k=>((dropL d cs o cs.length).getD k drZ).2.1.2.1) (b:=1) (n:=cs.length) fun k hk=>Int.le_trans (hj k hk).1.2.1 (hj k hk).1.2.2.1;have a4:=q3b (f:=fun k=>((dropL d cs o cs.length).getD k drZ).2.1.2.1) (b:=1000) (n:=cs.length) fun k hk=>(hj k hk).2;show(1≤sumR _ _∧sumR _ _≤100000)∧1≤sumR _ _∧sumR _ _≤100000;omega
def che_suit{ps:List (List Int)}(h:cheG d cs ps o=0)(hk:k<o.length):cLs (cs.getD (o.getD k 0).toNat coZ)≤(sprD d (cs.getD (o.getD k 0).toNat coZ) k).1∧(sprD d (cs.getD (o.getD k 0).toNat coZ) k).2.1≤cMs (cs.getD (o.getD k 0).toNat coZ):=by
 unfold cheG at h;split at h
 ·rename_i hs;unfold sufB at hs;rw[yyx] at hs;exact of_decide_eq_true (hs k (yxc.2 hk))
 ·cases h
end Go.Proofs.YtjjkdjbbkagclaaGreatDoor
namespace Ox
open Go Go.RowKit Ox.Rn
variable{r:AV}
def z2m{Z:Mem→Prop}(hr:r.scal=true)(h:FnL Z P f .anil (·=r)):FnZ Z P f r.toV where
 call:=h.call
 run:=fun M w hz hM=>by
  let ρ:Env:=⟨fun _=>0,fun _=>.bool,fun _=>Go.undef⟩
  refine(h.run M ρ w [] hz hM (by simp only[AV.rvs]) trivial).mono ?_;rintro e w' ⟨v,r',M',rfl,rfl,_,hv,hbl,_⟩;exact⟨by rw[(x5 hr).1 hv],hbl⟩
variable {X:Ctx}{s:S}{M:Mem}{ρ:Env}{a:Act}{w w':World}{QA:Exit→S→Prop}{all l:List Oper}{o:Oper}{md:Bool}
def LaidW(gs:List Gt)(w:World):Prop:=Laid gs fun b=>w.heap[b]?
variable{gs:List Gt}
def LaidW.later{E w:World}(h:LaidW gs E)(hb:Below E.heap.size E w):LaidW gs w:=z2h h fun b o e=>by show w.heap[b]?=some o;rw[hb.block b (yyh.1 e).1];exact e
abbrev FnE(gs:List Gt):=FnX fun _ w=>LaidW gs w
def FnE.toL{args:AV}{R:AV→Prop}(h:FnE gs P f args R):FnL (Laid gs) P f args R:=⟨h.call,fun M ρ w vs hz hM=>h.run M ρ w vs (z2h hz hM) hM⟩
def q72(h:callA X.T o.op s=some (cs,f,.anil))(hf:FnZ (Laid gs) X.P f r.toV)(hz:LaidW gs X.E)(hc:allP cs)(h1:SAT X M ρ s w)(h2:REG X M ρ s a)(hw:Below w.heap.size w w1) :
  ∃ az,(execOp a.eval o).run X.P w1=.ok (.enter f az) w1∧Calls X.P f az w1 (fun e w'=>e=.returned r.toV∧Below w.heap.size w w'):=by
 obtain⟨hb,vs,hvs,hrun⟩:=o0 h1 (q51 h1) h2 h hc;simp only[AV.rvs] at hvs;subst hvs;refine⟨#[],by rw[hrun,hf.call],(hf.run (fun b=>w1.heap[b]?) w1 ((hz.later h1.below).later hw) (fun b o e=>e)).mono ?_⟩;rintro e w' ⟨rfl,hbl⟩;exact⟨rfl,hw.trans (hbl.mono hw.size)⟩
def z9o{g:Option Bool}(hg:match g with|none=>o.guard=none|some g=>gOf all s.L o.guard=some g∧g=true)(h:callA X.T o.op s=some (cs,f,.anil))(hf:FnZ (Laid gs) X.P f r.toV)(hz:LaidW gs X.E)(hr:r.scal=true)(hrb:r.bd 0)(hd:dstOk X.n o.dst)(hc:allP cs)
  (k:JL X true all QA l (putS o.dst r s)):JL X true all QA (o::l) s:=by
 intro M ρ a w h1 h2;have hw:Region.wanted o (yielded all.toArray a.tmps)=true:=by
  cases g with
  |none=>exact v4 hg
  |some g=>obtain⟨hg,rfl⟩:=hg;exact x7 hg h2
 obtain⟨az,e1,e2⟩:=q72 h hf hz hc h1 h2 (Below.refl w.heap.size w);refine j6 hw (u9 (q0x h) e1 e2 ?_);rintro e w' ⟨rfl,hbl⟩;exact⟨_,rfl,k M ρ _ w' (j0 (h1.later hbl)) (h2.putO hd.spec (j3 (yyu _) hrb) ((x5 hr).2 rfl))⟩
section
variable {op:Op}{L:List (Nat×AV)}{H:List (Nat×HO)}{nx d:Nat}{ty:TypeId}{ps:String}{af:Array Edge}{fr:List Fr}
def z09(h:callA X.T op ⟨L,H,nx⟩=some (cs,f,.anil))(hf:FnZ (Laid gs) X.P f (.bool b))(hz:LaidW gs X.E)(hd:ltB d X.n=true)(hc:allP cs)
  (k:JK X (.ops true all l::fr) QA ⟨(d,(.val .bool b))::L,H,nx⟩):JK X (.ops true all (⟨some d,op,ty,ps,af,none⟩::l)::fr) QA ⟨L,H,nx⟩:=
 z9o (g:=none) (r:=(.val .bool b)) (s:=⟨L,H,nx⟩) rfl h hf hz rfl trivial (y8 hd) hc k
end
end Ox
namespace Ox
open Go Go.RowKit
section
variable {X:Ctx}{s:S}{M:Mem}{ρ:Env}{a:Act}{w:World}{QA:Exit→S→Prop}{all l:List Oper}{md:Bool}{o:Oper}
def z0s{args r:AV}(h:callA X.T o.op s=some (cs,f,args))(hf:Fn X.P f args (·=r))(hr:∀ M ρ v,r.rv M ρ v↔v=V)(hc:allP cs)(h1:SAT X M ρ s w)(h2:REG X M ρ s a)(hw:Below w.heap.size w w1) :
  ∃ az,(execOp a.eval o).run X.P w1=.ok (.enter f az) w1∧Calls X.P f az w1 (fun e w'=>e=.returned V∧Below w.heap.size w w'):=by
 obtain⟨hb,vs,hvs,hrun⟩:=o0 h1 (q51 h1) h2 h hc;refine⟨vs.toArray,by rw[hrun,hf.call],(hf.run _ ρ w1 vs (q8l hw) hvs hb).mono ?_⟩;rintro e w' ⟨v,r',M',rfl,rfl,_,hv,hbl,_⟩;exact⟨by rw[(hr _ _ _).1 hv],hw.trans (hbl.mono hw.size)⟩
def z9p{args r:AV}(hg:gOf all s.L o.guard=some g)(h:callA X.T o.op s=some (cs,f,args))(hf:g=true→Fn X.P f args (·=r))(hr:∀ M ρ v,r.rv M ρ v↔v=V)(hrb:r.bd 0)(hd:dstOk X.n o.dst)(hc:g=true→allP cs)
  (k:JL X md all QA l (putS o.dst (.gd g r) s)):JL X md all QA (o::l) s:=by
 cases md
 ·intro M ρ a w0 h1 h2;have hw:=x7 hg h2;simp only[wpQuiet,hw];cases g with
  |true=>simp only[if_true];refine⟨V,fun w hw=>?_,k M ρ _ w0 (j0 h1) (h2.putO hd.spec (by exact fun _=>j3 (yyu _) hrb) (by simp only[AV.rv];exact⟨fun _=>(hr _ _ _).2 rfl,fun h=>(by cases h)⟩))⟩;obtain⟨az,e1,e2⟩:=z0s h (hf rfl) hr (hc rfl) h1 h2 hw;unfold Oper.quietAt;rw[e1];exact⟨rfl,e2⟩
  |false=>simp only[yyr,if_false];exact k M ρ _ w0 (j0 h1) (h2.putO hd.spec (by exact fun h=>(by cases h)) (by simp[AV.rv]))
 ·intro M ρ a w h1 h2;have hw:=x7 hg h2;cases g with
  |true=>obtain⟨az,e1,e2⟩:=z0s h (hf rfl) hr (hc rfl) h1 h2 (Below.refl w.heap.size w);refine j6 hw (u9 (q0x h) e1 e2 ?_);rintro e w' ⟨rfl,hbl⟩;exact⟨_,rfl,k M ρ _ w' (j0 (h1.later hbl)) (h2.putO hd.spec (by exact fun _=>j3 (yyu _) hrb) (by simp only[AV.rv];exact⟨fun _=>(hr _ _ _).2 rfl,fun h=>(by cases h)⟩))⟩
  |false=>refine q0n hw ?_;exact k M ρ _ w (j0 h1) (h2.putO hd.spec (by exact fun h=>(by cases h)) (by simp[AV.rv]))
end
section
variable {X:Ctx}{QA:Exit→S→Prop}{all l:List Oper}{md:Bool}{op:Op}{L:List (Nat×AV)}{H:List (Nat×HO)}{nx d:Nat}{cs:List Prop}{ty:TypeId}{ps:String}{af:Array Edge}{g:Bool}{gg:Nat×Bool}{rr:List Fr}{f:FuncId}{args r:AV}
def JK.fcg(hg:gOf all L (some gg)=some g)(h:callA X.T op ⟨L,H,nx⟩=some (cs,f,args))(hf:g=true→Fn X.P f args (·=r))(hr:∀ M ρ v,r.rv M ρ v↔v=V)(hrb:r.bd 0)(hd:ltB d X.n=true)(hc:g=true→allP cs)(k:JK X (.ops md all l::rr) QA ⟨(d,.gd g r)::L,H,nx⟩) :
  JK X (.ops md all (⟨some d,op,ty,ps,af,some gg⟩::l)::rr) QA ⟨L,H,nx⟩:=z9p (o:=⟨some d,op,ty,ps,af,some gg⟩) (s:=⟨L,H,nx⟩) hg h hf hr hrb (y8 hd) hc k
end
section
variable {X:Ctx}{s:S}{QA:Exit→S→Prop}{all l:List Oper}{o:Oper}
variable{gs:List Rn.Gt}
def z9m{r:AV}(hg:gOf all s.L o.guard=some g)(hgt:g=true)(h:callA X.T o.op s=some (cs,f,.anil))(hf:FnZ (Rn.Laid gs) X.P f r.toV)(hz:LaidW gs X.E)(hr:r.scal=true)(hrb:r.bd 0)(hd:dstOk X.n o.dst)(hc:allP cs)
  (k:JL X false all QA l (putS o.dst r s)):JL X false all QA (o::l) s:=by
 intro M ρ a w0 h1 h2;have hw:=x7 hg h2;subst hgt;simp only[wpQuiet,hw,if_true];refine⟨r.toV,fun w hw=>?_,k M ρ _ w0 (j0 h1) (h2.putO hd.spec (j3 (yyu _) hrb) ((x5 hr).2 rfl))⟩;obtain⟨az,e1,e2⟩:=q72 h hf hz hc h1 h2 hw;unfold Oper.quietAt;rw[e1];exact⟨rfl,e2⟩
def z9x{op:Op}{L:List (Nat×AV)}{H:List (Nat×HO)}{nx d:Nat}{ty:TypeId}{ps:String}{af:Array Edge}{fr:List Fr}{gg:Nat×Bool}(hg:gOf all L (some gg)=some g)(hgt:g=true)(h:callA X.T op ⟨L,H,nx⟩=some (cs,f,.anil))(hf:FnZ (Rn.Laid gs) X.P f (.bool b))(hz:LaidW gs X.E)(hd:ltB d X.n=true)(hc:allP cs)
  (k:JK X (.ops false all l::fr) QA ⟨(d,(.val .bool b))::L,H,nx⟩):JK X (.ops false all (⟨some d,op,ty,ps,af,some gg⟩::l)::fr) QA ⟨L,H,nx⟩:=
 z9m (r:=(.val .bool b)) (s:=⟨L,H,nx⟩) hg hgt h hf hz rfl trivial (y8 hd) hc k
end
def fix_two(r:Int×Int×Unit):∀ M ρ v,(AV.val (.cons (.int .i64) (.cons (.int .i64) .nil)) r).rv M ρ v↔v=.agg #[.int .i64 r.1,.int .i64 r.2.1]:=fun M ρ v=>by
 simp only[AV.rv,Rep];constructor
 ·rintro⟨cs,⟨c1,c2,rfl,rfl,c3,c4,rfl,rfl,rfl⟩,rfl⟩;rfl
 ·rintro rfl;exact⟨_,⟨_,_,rfl,rfl,_,_,rfl,rfl,rfl⟩,rfl⟩
end Ox
namespace Go.Proofs.YtjjkdjbbkagclaaGreatDoor
open Go Go.RowKit Ox Ox.Gl Ox.Rn
attribute [local irreducible] JC JL JK JW
variable {gs:List Gt}
def q5a:EqT Tryz.prog rgT 43:=.of (by decide +kernel)
abbrev vOO(OO:List (List Int)):AV:=.val (.slice (.slice (.int .i64))) OO
abbrev L3(n:Nat)(OO:List (List Int))(i:Nat):List (Nat×AV):=[(3,.lf (.optr 0 [])),(6,vB false),(7,vI (n:Int)),(8,vOO OO),(9,.lf (.osl 1)),(10,vI (i:Int))]
abbrev H3(d:Int)(cs:List CoD)(ps:List (List Int))(S:List RgD):List (Nat×HO):=[(0,.cell glT (vG d cs ps)),(1,.sl 43 rgT S)]
abbrev HB3(d:Int)(cs:List CoD)(ps:List (List Int))(S:List RgD)(D:List DrD):List (Nat×HO):=H3 d cs ps S++[(2,.cell baT (.mix (vI 1000) (.mix (.val (.slice spT) [(500,500,())]) (.mix (.lf (.osl 3)) (.val .nil ()))))),(3,.sl 50 drT D)]
abbrev LK3(n:Nat)(OO:List (List Int))(i:Nat)(E0:Int)(k:Nat):List (Nat×AV):=L3 n OO i++[(11,vI E0),(12,.lf (.optr 2 [])),(13,vI (k:Int))]
set_option maxHeartbeats 4000000 in
def fn3(h6:FnZ (Laid gs) Tryz.prog 6 (.bool true))(d:Int)(cs:List CoD)(ps:List (List Int))(one two:List Int)(h1:∀ y∈one,0≤y∧y≤255)(h2:∀ y∈two,0≤y∧y≤255) :
  FnE gs Tryz.prog 3 (.acons (vG d cs ps) (.acons (vU one) (.acons (vU two) .anil))) (·=vB true):=by
 refine Ox.FnX.intro xok Tryz.func3 rfl Tryz.call3 (yyd rfl) (fun E M0 up hz=>?_);refine z7 ?_;obtain⟨b,c5,hb⟩:=fn5 d cs ps;refine JK.lenOf 1 rfl fun hlen=>?_;replace hlen:one.length≤9223372036854775807:=hlen.1;refine JK.lenOf 2 rfl fun hlen2=>?_;replace hlen2:two.length≤9223372036854775807:=hlen2.1
 (repeat (first|refine zs rfl ?_|refine zg rfl rfl rfl ?_|refine zd ?_|refine k9 ?_|refine k8 ?_|refine zeq q5a rfl rfl rfl ?_|refine q9k q5a rfl rfl rfl rfl ?_|refine q9j q5a rfl rfl rfl rfl ?_|refine zc rfl (c5) rfl rfl ?_|refine ze rfl (c5) rfl ?_|refine zk rfl rfl (fun _=>c5) rfl rfl ?_))
 refine z5 rfl (fun hc=>?_) (fun hc=>?_)
 ·refine zK4 ?_;refine z09 rfl h6 hz rfl trivial ?_;refine zK4 ?_;refine⟨.inl rfl,_,_,rfl,trivial,?_⟩;rfl
 have hcc:b=true∧one.length≤20∧two.length≤20:=by
  cases b
  ·simp at hc
  ·by_cases h1:(20:Int)<one.length
   ·simp[h1] at hc
   ·by_cases h2:(20:Int)<two.length
    ·simp[h1,h2] at hc
    ·exact⟨rfl,by omega,by omega⟩
 obtain⟨hbt,hl1,hl2⟩:=hcc;have hV:=hb hbt;clear hc hlen hlen2 hb hbt c5;have n1:=hV.n1;have n10:=hV.n10;have c71:=fn7 cs.length n1 n10 one h1 hl1;have c72:=fn7 cs.length n1 n10 two h2 hl2;have ho1:=shO_ok one cs.length;have ho2:=shO_ok two cs.length;generalize shO one cs.length=O1 at c71 ho1;generalize shO two cs.length=O2 at c72 ho2
 (repeat (first|refine zs rfl ?_|refine zg rfl rfl rfl ?_|refine zd ?_|refine k9 ?_|refine k8 ?_|refine zeq q5a rfl rfl rfl ?_|refine q9k q5a rfl rfl rfl rfl ?_|refine q9j q5a rfl rfl rfl rfl ?_|refine zc rfl (c71) rfl rfl ?_|refine ze rfl (c71) rfl ?_|refine zk rfl rfl (fun _=>c71) rfl rfl ?_|refine zc rfl (c72) rfl rfl ?_|refine ze rfl (c72) rfl ?_|refine zk rfl rfl (fun _=>c72) rfl rfl ?_))
 obtain⟨OO,hOO⟩:∃ OO,OO=[O1,O2]:=⟨_,rfl⟩;have hOl:OO.length=2:=by rw[hOO];rfl
 have hOg:∀ i,i<2→isO cs.length (OO.getD i []):=fun i hi=>by
  rw[hOO]
  match i,hi with
  |0,_=>exact ho1
  |1,_=>exact ho2
 rw[← hOO];clear hOO ho1 ho2 c71 c72
 (refine q9h [1] [3,6,7,8,9,10] rfl ?_)
 refine JK.ghost 9 43 rgT rfl ?_;obtain⟨n,hn⟩:∃ n,cs.length=n:=⟨_,rfl⟩;rw[hn];refine JK.loop (fun i:Nat=>⟨L3 n OO i,H3 d cs ps (List.replicate i (sumC d cs n)),2⟩) (fun i=>i≤2) (fun i=>2-i) 0 (yyu _) (by exact zJ) fun i hi=>?_;have hrs:List.replicate (i+1) (sumC d cs n)=List.replicate i (sumC d cs n)++[sumC d cs n]:=List.replicate_succ';have hrl:(List.replicate i (sumC d cs n)).length=i:=List.length_replicate;have hr2:i=2→List.replicate i (sumC d cs n)=[sumC d cs n,sumC d cs n]:=fun e=>by rw[e];rfl
 generalize List.replicate i (sumC d cs n)=S at hrs hrl hr2 ⊢;refine zK4 ?_;refine z5 rfl (fun hc=>?_) (fun hc=>?_)
 ·replace hc:=zC hc;have hi':i<2:=by omega
  have ho:=hOg i hi';have hzo:OO.getD (Int.toNat (i:Int)) (Ty.slice (.int .i64)).dflt=OO.getD i []:=rfl;have hE:=fun h k hk=>che_suit (d:=d) (cs:=cs) (ps:=ps) (o:=OO.getD i []) h (k:=k) hk;have c8:=fn8 hV ho;have c9:=fn9 hV ho;have hdr:=fun h=>drop_okB hV ho h;have hsd:=sum_drop (d:=d) ho;generalize cheG d cs ps (OO.getD i [])=E0 at c8 c9 hE;rw[← hzo] at c8 c9 ho hE hdr hsd
  (repeat (first|refine zs rfl ?_|refine zg rfl rfl rfl ?_|refine zd ?_|refine k9 ?_|refine k8 ?_|refine zeq q5a rfl rfl rfl ?_|refine q9k q5a rfl rfl rfl rfl ?_|refine q9j q5a rfl rfl rfl rfl ?_|refine zc rfl (c8) rfl rfl ?_|refine ze rfl (c8) rfl ?_|refine zk rfl rfl (fun _=>c8) rfl rfl ?_|refine zc rfl (c9) rfl rfl ?_|refine ze rfl (c9) rfl ?_|refine zk rfl rfl (fun _=>c9) rfl rfl ?_))
  refine z5 rfl (fun h=>absurd h (by simp)) (fun _=>?_);have c10:=fn10 500 500
  (repeat (first|refine zs rfl ?_|refine zg rfl rfl rfl ?_|refine zd ?_|refine k9 ?_|refine k8 ?_|refine zeq q5a rfl rfl rfl ?_|refine q9k q5a rfl rfl rfl rfl ?_|refine q9j q5a rfl rfl rfl rfl ?_|refine zc rfl (c10) rfl rfl ?_|refine ze rfl (c10) rfl ?_|refine zk rfl rfl (fun _=>c10) rfl rfl ?_))
  clear c8 c9 c10
  (refine q9h [2] [3,6,7,8,9,10,11,12,13] rfl ?_)
  refine z9w 3 [true,true,false] 50 drT rfl rfl ?_;obtain⟨R,hR⟩:∃ R,OO.getD (Int.toNat (i:Int)) (Ty.slice (.int .i64)).dflt=R:=⟨_,rfl⟩;rw[hR] at ho hE hdr hsd;have hol:=ho.len;refine JK.loop (fun k:Nat=>⟨LK3 n OO i E0 k,HB3 d cs ps S (dropL d cs R k),4⟩) (fun k=>k≤n∧∀ j,j<k→1≤(sprD d (cs.getD (R.getD j 0).toNat coZ) j).1) (fun k=>n-k) 0 ⟨yyu _,fun j h=>absurd h (Nat.not_lt_zero j)⟩ (by exact zJ) fun k ⟨hk,hge⟩=>?_;have hds:=z4z d cs R k;have hdl:=z0n d cs R k;have hdf:k=n→dropL d cs R k=dropL d cs R n:=fun e=>by rw[e]
  generalize dropL d cs R k=D at hds hdl hdf ⊢;refine zK4 ?_;refine z5 rfl (fun hd=>?_) (fun hd=>?_)
  ·replace hd:=zC hd;have hk':k<n:=by omega
   have hg:=ho.get (i:=k) (by omega);obtain⟨X,hX⟩:∃ X,R.getD k 0=X:=⟨_,rfl⟩;have hX2:(OO.getD (Int.toNat (i:Int)) (Ty.slice (.int .i64)).dflt).getD (Int.toNat (k:Int)) (Ty.int .i64).dflt=X:=by rw[hR];exact hX
   rw[hX] at hg hds;have b1:k<(OO.getD (Int.toNat (i:Int)) (Ty.slice (.int .i64)).dflt).length:=by rw[hR];omega
   have b2:0≤(OO.getD (Int.toNat (i:Int)) (Ty.slice (.int .i64)).dflt).getD (Int.toNat (k:Int)) (Ty.int .i64).dflt∧(OO.getD (Int.toNat (i:Int)) (Ty.slice (.int .i64)).dflt).getD (Int.toNat (k:Int)) (Ty.int .i64).dflt<cs.length:=by rw[hX2];exact hg
   refine zK11 ?_;refine v9 xk (Tryz.f3.body.getD .skip) ⟨LK3 n OO i E0 k++[(14,.lf (.optr 4 []))],HB3 d cs ps S D++[(4,.cell coT (.val coT (cs.getD (Int.toNat ((OO.getD (Int.toNat (i:Int)) (Ty.slice (.int .i64)).dflt).getD (Int.toNat (k:Int)) (Ty.int .i64).dflt)) coT.dflt)))],5⟩ rfl 13 rfl ?_ ?_
   ·(refine q7 0 xk rfl rfl (q7 2 xk rfl rfl (q7 3 xk rfl rfl (q7 4 xk rfl rfl (q7 6 xk rfl rfl (q8 1 xk rfl rfl (q8 5 xk rfl rfl (q8 7 xk rfl rfl (q8 8 xk rfl rfl (q8 9 xk rfl rfl (q8 10 xk rfl rfl (zU 11 xk rfl rfl ?_)))))))))));refine zK15 ?_;refine q9 ?_;refine zU 12 xk rfl rfl ?_;refine zK15 ?_;refine q9 ?_;refine w7 xk StF.nil ?_;(exact zJ))
   rw[hX2];have hqz:cs.getD (Int.toNat X) coT.dflt=cs.getD X.toNat coZ:=rfl;rw[hqz];have c11:=fn11 hV (c:=X.toNat) (k:=(k:Int)) (by omega) (by omega) (by omega);rw[show((X.toNat:Nat):Int)=X by omega,← hX2] at c11;have c12:=fn12 hV (c:=X.toNat) (k:=(k:Int)) (by omega) (by omega) (by omega);rw[show((X.toNat:Nat):Int)=X by omega,← hX2] at c12;have hE:=fun h=>hE h k (by omega);rw[hX,← hX2] at hE;rw[← hX2] at hds ⊢;have hlast:sprD d (cs.getD (R.getD k 0).toNat coZ) k=sprD d (cs.getD (Int.toNat ((OO.getD (Int.toNat (i:Int)) (Ty.slice (.int .i64)).dflt).getD (Int.toNat (k:Int)) (Ty.int .i64).dflt)) coZ) k:=by rw[hX,hX2]
   clear hX hX2 hR hqz;generalize hq:cs.getD (Int.toNat ((OO.getD (Int.toNat (i:Int)) (Ty.slice (.int .i64)).dflt).getD (Int.toNat (k:Int)) (Ty.int .i64).dflt)) coZ=q at c11 c12 hE hds hlast ⊢;generalize hr:sprD d q (k:Int)=r at c11 c12 hE hds hlast;refine zK11 ?_;refine v9 xk (Tryz.f3.body.getD .skip) ⟨LK3 n OO i E0 k++[(14,.lf (.optr 4 [])),(15,.lf (.optr 5 [])),(16,vI 0)],HB3 d cs ps S D++[(4,.cell coT (.val coT q)),(5,.cell rgT (.val rgT r))],6⟩ rfl 16 rfl ?_ ?_
   ·(refine q7 1 xk rfl rfl (q7 2 xk rfl rfl (q7 3 xk rfl rfl (q7 5 xk rfl rfl (q7 8 xk rfl rfl (q8 0 xk rfl rfl (q8 4 xk rfl rfl (q8 6 xk rfl rfl (q8 7 xk rfl rfl ?_))))))));refine v6 9 [13] xk ?_ ?_;exact zS;refine(BrF.one rfl rfl ?_ (BrF.one rfl rfl ?_ BrF.nil));(· refine zK7 ?_;refine q9 ?_;refine q7 10 xk rfl rfl (q7 11 xk rfl rfl (q7 12 xk rfl rfl (zU 13 xk rfl rfl ?_)));refine zK7 ?_;refine q9 ?_;refine zU 14 xk rfl rfl ?_;refine zK7 ?_;refine q9 ?_;refine q7 15 xk rfl rfl ?_;refine w7 xk StF.nil ?_;(exact zJ));(· refine zK7 ?_;refine q9 ?_;refine zU 9 xk rfl rfl ?_;refine zK7 ?_;refine q9 ?_;refine q7 10 xk rfl rfl (q7 11 xk rfl rfl (q7 12 xk rfl rfl (zU 14 xk rfl rfl ?_)));refine zK7 ?_;refine q9 ?_;refine q7 15 xk rfl rfl ?_;refine w7 xk StF.nil ?_;(exact zJ)))
   clear c11;refine zK4 ?_;refine JK.fcg rfl rfl (fun _=>c12) (fix_two _) trivial rfl (fun _=>by simp[allP,wantB]) ?_;refine zK4 ?_;refine z5 rfl (fun hf=>?_) (fun _=>?_)
   ·exfalso;have e1:(Ty.cons (.int .i64) (.cons (.int .i64) .nil)).eqB r r=true:=v8.2 rfl;rw[e1] at hf;by_cases e0:E0=0
    ·obtain⟨k1,k2⟩:=hE e0;replace k1:q.2.1≤r.1:=k1;replace k2:r.2.1≤q.2.2.1:=k2;have k3:¬ r.1<q.2.1:=by omega
     have k4:¬ q.2.2.1<r.2.1:=by omega
     simp[k3,k4] at hf
    ·simp[e0] at hf
   obtain⟨lo,hi2,_⟩:=r;refine zK4 ?_;refine z5 rfl (fun hf=>?_) (fun hf=>?_)
   ·refine zK4 ?_;refine z09 rfl h6 hz rfl trivial ?_;refine zK4 ?_;refine⟨.inl rfl,_,_,rfl,trivial,?_⟩;rfl
   have hlo:1≤lo:=by have hf:¬ lo<1:=of_decide_eq_false hf;omega
   have c13:=fn13 0 lo hi2;refine zK11 ?_;refine q0z xk (Tryz.f3.body.getD .skip) ⟨LK3 n OO i E0 k,HB3 d cs ps S (D++[(0,(lo,hi2,()),())]),4⟩ rfl 11 rfl ?_ ?_
   ·(refine q7 0 xk rfl rfl (q7 2 xk rfl rfl (q7 4 xk rfl rfl (q8 1 xk rfl rfl (q8 3 xk rfl rfl (q8 5 xk rfl rfl (zU 6 xk rfl rfl ?_))))));refine zK16 ?_;refine q9 ?_;refine zU 7 xk rfl rfl ?_;refine zK16 ?_;refine q9 ?_;refine zU 8 xk rfl rfl ?_;refine zK16 ?_;refine q9 ?_;refine q7 9 xk rfl rfl (zU 10 xk rfl rfl ?_);refine zK16 ?_;refine q9 ?_;refine w7 xk StF.nil ?_;(exact zJ))
   rw[← hds];refine zK4 ?_;refine⟨k+1,by exact zJ,⟨by omega,fun j hj=>?_⟩,by omega⟩;rcases Nat.lt_succ_iff_lt_or_eq.1 hj with h|rfl
   ·exact hge j h
   ·rw[hlast];exact hlo
  ·replace hd:=zC hd;rw[hn] at hdr hsd;have hB:=hdr fun j hj=>hge j (by omega);rw[hdf (by omega)] at hdl ⊢;have hkn:k=n:=by omega
   rw[hkn] at hdl;clear hds hdf hge hdr hd hk hkn hE;generalize dropL d cs R n=D at hdl hB hsd ⊢;have c14:=fn14 hB;have c15:=fun x y h0 hxy hy=>fn15 hB (x:=x) (y:=y) h0 hxy hy;rw[hdl,hsd] at c14;rw[hdl] at c15;generalize sumC d cs n=SS at c14 hrs hr2 ⊢;clear hsd
   (refine q9h [3] [3,6,7,8,9,10,12] rfl ?_)
   refine z39 2 rfl rfl ?_
   (repeat (first|refine zs rfl ?_|refine zg rfl rfl rfl ?_|refine zd ?_|refine k9 ?_|refine k8 ?_|refine zeq q5a rfl rfl rfl ?_|refine q9k q5a rfl rfl rfl rfl ?_|refine q9j q5a rfl rfl rfl rfl ?_|refine zc rfl (c14) rfl rfl ?_|refine ze rfl (c14) rfl ?_|refine zk rfl rfl (fun _=>c14) rfl rfl ?_))
   refine z5 rfl (fun h=>absurd h (by decide)) (fun _=>?_);refine zK4 ?_;refine JK.loop (fun k:Nat=>⟨L3 n OO i++[(12,.lf (.optr 2 [])),(19,vI (k:Int))],H3 d cs ps (S++[SS])++[(2,.cell baT (vBa D))],3⟩) (fun k=>1≤k∧k≤n) (fun k=>n-k) 1 ⟨yyo _,by omega⟩ (by exact zJ) fun k ⟨hk1,hk⟩=>?_;refine zK4 ?_;refine z5 rfl (fun hd=>?_) (fun hd=>?_)
   ·replace hd:=zC hd;have c15:=c15 ((k:Int)-1) (k:Int) (by omega) (by omega) (by omega)
    (repeat (first|refine zs rfl ?_|refine zg rfl rfl rfl ?_|refine zd ?_|refine k9 ?_|refine k8 ?_|refine zeq q5a rfl rfl rfl ?_|refine q9k q5a rfl rfl rfl rfl ?_|refine q9j q5a rfl rfl rfl rfl ?_|refine zc rfl (c15) rfl rfl ?_|refine ze rfl (c15) rfl ?_|refine zk rfl rfl (fun _=>c15) rfl rfl ?_))
    refine z5 rfl (fun h=>absurd h (by decide)) (fun _=>?_);refine zK4 ?_;exact⟨k+1,by exact zJ,⟨by omega,by omega⟩,by omega⟩
   ·refine zK4 ?_;refine⟨i+1,?_,by omega,by omega⟩;rw[hrs];exact zJ
 ·replace hc:=zC hc;rw[hr2 (by omega)];clear hrs hrl hr2 hi hc hOg hOl;refine zK4 ?_;refine JK.loop (fun i:Nat=>⟨[(3,.lf (.optr 0 [])),(6,vB false),(7,vI (n:Int)),(9,.lf (.osl 1)),(22,.lf (.optr 2 [])),(23,vI (i:Int))],H3 d cs ps [sumC d cs n,sumC d cs n]++[(2,.cell rgT (.val rgT (sumC d cs i)))],3⟩) (fun i=>i≤n) (fun i=>n-i) 0 (yyu _) (by rw[show sumC d cs 0=(0,0,()) from rfl];exact zJ) fun i hi=>?_
  have hss:sumC d cs (i+1)=((sumC d cs i).1+(sLo (cs.getD i coZ)-(i:Int)*d),(sumC d cs i).2.1+(sHi (cs.getD i coZ)-(i:Int)*d),()):=rfl;have hd1:=hV.d1;have hd2:=hV.d100;have hbd:∀ j,j<n→(0≤sLo (cs.getD j coZ)∧sLo (cs.getD j coZ)≤1000)∧(0≤sHi (cs.getD j coZ)∧sHi (cs.getD j coZ)≤1000)∧0≤(j:Int)*d∧(j:Int)*d≤1000:=fun j hj=>by obtain⟨⟨k1,k2,k3⟩,_⟩:=q37 hV (i:=j) (by omega);have:=kd_bd (k:=(j:Int)) (n:=cs.length) (d:=d) (by omega) (by omega) n10 hd1 hd2;omega
  have hA:-10000≤(sumC d cs i).1∧(sumC d cs i).1≤10000:=by
   have a1:=q3c (f:=fun k=>sLo (cs.getD k coZ)-(k:Int)*d) (b:=-1000) (n:=i) fun k hk=>by have:=hbd k (by omega);show -1000≤sLo (cs.getD k coZ)-(k:Int)*d;omega
   have a2:=q3b (f:=fun k=>sLo (cs.getD k coZ)-(k:Int)*d) (b:=1000) (n:=i) fun k hk=>by have:=hbd k (by omega);show sLo (cs.getD k coZ)-(k:Int)*d≤1000;omega
   show -10000≤sumR _ i∧sumR _ i≤10000;omega
  have hB:-10000≤(sumC d cs i).2.1∧(sumC d cs i).2.1≤10000:=by
   have a1:=q3c (f:=fun k=>sHi (cs.getD k coZ)-(k:Int)*d) (b:=-1000) (n:=i) fun k hk=>by have:=hbd k (by omega);show -1000≤sHi (cs.getD k coZ)-(k:Int)*d;omega
   have a2:=q3b (f:=fun k=>sHi (cs.getD k coZ)-(k:Int)*d) (b:=1000) (n:=i) fun k hk=>by have:=hbd k (by omega);show sHi (cs.getD k coZ)-(k:Int)*d≤1000;omega
   show -10000≤sumR _ i∧sumR _ i≤10000;omega
  have hfin:i=n→sumC d cs i=sumC d cs n:=fun e=>by rw[e]
  have hbd:=hbd i;generalize sumC d cs i=g at hss hA hB hfin ⊢;obtain⟨a,b,_⟩:=g;replace hA:-10000≤a∧a≤10000:=hA;replace hB:-10000≤b∧b≤10000:=hB;refine zK4 ?_;refine z5 rfl (fun hc=>?_) (fun hc=>?_)
  ·replace hc:=zC hc;have hi':i<n:=by omega
   obtain⟨q1,q2,q3⟩:=hbd hi';have e1:(cs.getD (Int.toNat (i:Int)) coT.dflt).1.1=sLo (cs.getD i coZ):=rfl;have e2:(cs.getD (Int.toNat (i:Int)) coT.dflt).1.2.1=sHi (cs.getD i coZ):=rfl;rw[← e1,← e2] at hss;rw[← e1] at q1;rw[← e2] at q2;refine zK11 ?_;refine v9 xk (Tryz.f3.body.getD .skip) ⟨[(3,.lf (.optr 0 [])),(6,vB false),(7,vI (n:Int)),(9,.lf (.osl 1)),(22,.lf (.optr 2 [])),(23,vI (i:Int))],H3 d cs ps [sumC d cs n,sumC d cs n]++[(2,.cell rgT (.val rgT (a+((cs.getD (Int.toNat (i:Int)) coT.dflt).1.1-(i:Int)*d),b,())))],3⟩ rfl 17 rfl ?_ ?_
   ·(refine q7 0 xk rfl rfl (q7 2 xk rfl rfl (q7 4 xk rfl rfl (q7 9 xk rfl rfl (q7 10 xk rfl rfl (q8 1 xk rfl rfl (q8 3 xk rfl rfl (q8 5 xk rfl rfl (q8 6 xk rfl rfl (q8 7 xk rfl rfl (q8 8 xk rfl rfl (q8 11 xk rfl rfl (q8 12 xk rfl rfl (q8 13 xk rfl rfl (q8 14 xk rfl rfl (q8 15 xk rfl rfl (zU 16 xk rfl rfl ?_))))))))))))))));exact zB2)
   refine zK11 ?_;refine q0z xk (Tryz.f3.body.getD .skip) ⟨[(3,.lf (.optr 0 [])),(6,vB false),(7,vI (n:Int)),(9,.lf (.osl 1)),(22,.lf (.optr 2 [])),(23,vI (i:Int))],H3 d cs ps [sumC d cs n,sumC d cs n]++[(2,.cell rgT (.val rgT (a+((cs.getD (Int.toNat (i:Int)) coT.dflt).1.1-(i:Int)*d),b+((cs.getD (Int.toNat (i:Int)) coT.dflt).1.2.1-(i:Int)*d),())))],3⟩ rfl 17 rfl ?_ ?_
   ·(refine q7 0 xk rfl rfl (q7 2 xk rfl rfl (q7 4 xk rfl rfl (q7 9 xk rfl rfl (q7 10 xk rfl rfl (q8 1 xk rfl rfl (q8 3 xk rfl rfl (q8 5 xk rfl rfl (q8 6 xk rfl rfl (q8 7 xk rfl rfl (q8 8 xk rfl rfl (q8 11 xk rfl rfl (q8 12 xk rfl rfl (q8 13 xk rfl rfl (q8 14 xk rfl rfl (q8 15 xk rfl rfl (zU 16 xk rfl rfl ?_))))))))))))))));exact zB2)
   refine zK4 ?_;refine⟨i+1,?_,by omega,by omega⟩;rw[hss];exact zJ
  ·replace hc:=zC hc;rw[hfin (by omega)];clear hss hbd hA hB hfin;generalize sumC d cs n=g;have e0:([g,g]:List RgD).getD (Int.toNat 0) rgT.dflt=g:=rfl;have e1:([g,g]:List RgD).getD (Int.toNat 1) rgT.dflt=g:=rfl;have e2:rgT.eqB g g=true:=v8.2 rfl;refine zK4 ?_;refine z9x rfl ?_ rfl h6 hz rfl trivial ?_
   ·show wantB true (bif rgT.eqB g g then rgT.eqB g g else false)=true;rw[e2];rfl
   refine zK4 ?_;refine⟨.inl rfl,_,_,rfl,trivial,?_⟩;show vB (bif (bif rgT.eqB g g then rgT.eqB g g else false) then true else false)=vB true;rw[e2];rfl
end Go.Proofs.YtjjkdjbbkagclaaGreatDoor
namespace Go.Proofs.YtjjkdjbbkagclaaGreatDoor
open Go Go.RowKit Ox Ox.Rn
attribute [local irreducible] JC JL JK JW
variable {gs:List Gt}
def works03(h1:FnZ (Laid gs) Tryz.prog 93 (.bool true))(h2:FnZ (Laid gs) Tryz.prog 94 (.bool true))(h3:FnZ (Laid gs) Tryz.prog 95 (.bool true)):FnZ (Laid gs) Tryz.prog 54 (.bool true):=by refine z2m (r:=vB true) rfl (Ox.FnX.intro xok Tryz.func54 rfl Tryz.call54 (yyd rfl) (fun E M0 up hz=>?_));refine z7 ?_;refine zK0 ?_;refine q9i rfl h1 hz rfl trivial ?_;refine zK0 ?_;refine q4t rfl rfl rfl h2 hz rfl trivial ?_;refine zK0 ?_;refine q4t rfl rfl rfl h3 hz rfl trivial ?_;refine zK0 ?_;refine⟨.inl rfl,_,_,rfl,trivial,?_⟩;rfl
def works04(h1:FnZ (Laid gs) Tryz.prog 54 (.bool true))(h2:FnZ (Laid gs) Tryz.prog 55 (.bool true)):FnZ (Laid gs) Tryz.prog 24 (.bool true):=by refine z2m (r:=vB true) rfl (Ox.FnX.intro xok Tryz.func24 rfl Tryz.call24 (yyd rfl) (fun E M0 up hz=>?_));refine z7 ?_;refine zK0 ?_;refine q9i rfl h1 hz rfl trivial ?_;refine zK0 ?_;refine q4t rfl rfl rfl h2 hz rfl trivial ?_;refine zK0 ?_;refine⟨.inl rfl,_,_,rfl,trivial,?_⟩;rfl
def works05(h1:FnZ (Laid gs) Tryz.prog 24 (.bool true))(h2:FnZ (Laid gs) Tryz.prog 25 (.bool true)):FnZ (Laid gs) Tryz.prog 6 (.bool true):=by refine z2m (r:=vB true) rfl (Ox.FnX.intro xok Tryz.func6 rfl Tryz.call6 (yyd rfl) (fun E M0 up hz=>?_));refine z7 ?_;refine zK0 ?_;refine q9i rfl h1 hz rfl trivial ?_;refine zK0 ?_;refine q4t rfl rfl rfl h2 hz rfl trivial ?_;refine zK0 ?_;refine⟨.inl rfl,_,_,rfl,trivial,?_⟩;rfl
end Go.Proofs.YtjjkdjbbkagclaaGreatDoor
