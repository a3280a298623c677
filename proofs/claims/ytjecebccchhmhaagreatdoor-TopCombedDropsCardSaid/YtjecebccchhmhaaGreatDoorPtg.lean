/- Texts of the proof of the statement that the last text proves. -/
import Derived.Test.YtjecebccchhmhaaGreatDoorPtf
set_option linter.all false
set_option maxHeartbeats 2000000
variable{K:List (List Int)}{e p q v z:Int}{args:Array Go.Operand}{a assign b body:Go.Code}{d o xs:List Int}{N c clk i j k lab m n nn s:Nat}{f:Go.FuncId}{fo x y:Go.Operand}{g:Nat→Nat→Int}{up up1:Nat→Nat→Go.Value}{c1 c2:List Prop}{E:Go.World}{ts:Array Go.TypeId}{h:Nat→Int}{t:Go.TypeId}
namespace Ox
open Go Go.RowKit
variable {X:Ctx}{s:S}{QA:Exit→S→Prop}
def q2m{r:List Fr}(Kp:List Nat){g:Operand}{ps:Array Tmp}{fn:Func}{c:Code}{cap:AV}{cs:List Prop}(hd:X.rd=none)(hu:opd s.L g=some (cs,.fn f .anil cap))
  (hf:X.P.funcs[f]?=some fn) (hb:fn.body=some c) (ha:∀ az w,(callFunc f az).run X.P w=.ok (.enter f az) w) (hn:argN (.acons .anil cap)≤fn.ntmps) (hc:allP cs)
  (h:∀ M up az bd,az=assign→bd=body→JK (X.sub M fn.ntmps none up) [.code c] (rngQ X fn.results.toList (qq X r QA))
   ⟨argL (.acons (.lf (.yld s.nx)) cap) 0,(s.nx+1,.fr X.dp ((X.n,.lf (.yld s.nx))::svL s.L Kp))::(s.nx,.loop .ready none ps az bd X.n (svL s.L Kp))::s.H,s.nx+2⟩):JK X (.code (.rangeFunc g ps assign body)::r) QA s:=
 z25 Kp hd hu hc hf hb ha hn fun M up=>h M up _ _ rfl rfl
def q2l{r:List Fr}{L:List (Nat×AV)}{H:List (Nat×HO)}{nx d:Nat}{ty:TypeId}{p:String}{af:Array Edge}{all l:List Oper}(Kp:List Nat){ps:Array Tmp}{nO:Nat}{LO L0:List (Nat×AV)}{az:AV}{cs1 cs2:List Prop}{tys:Array TypeId}
  (hu:opd L fo=some (cs1,.lf (.yld lab))) (ha:opds L args.toList=some (cs2,az)) (hl:lk H lab=some (.loop .ready none ps assign body nO LO))
  (hb:setPs ps.toList az LO=some L0) (he:ps.toList.all (fun p=>Nat.blt p nO)=true) (hd:ltB d X.n=true) (hc:allP (cs1++cs2))
  (h:∀ M0 up bl,up X.dp X.n=.func (.yield bl) #[] #[]→JC (X.sub M0 nO (some bl) up) assign
   (asgQ X nO fun s1=>JC (X.sub M0 nO (some bl) up) body (bodyQ X fun b L H nx=>JK X (.ops true all l::r) QA ⟨(d,.val .bool b)::L,H,nx⟩) s1)
   ⟨L0,(nx,.fr X.dp ((X.n,.lf (.yld lab))::svL L Kp))::H,nx+1⟩) :
  JK X (.ops true all (⟨some d,.call {callee:=.value fo,args:=args,argTypes:=tys},ty,p,af,none⟩::l)::r) QA ⟨L,H,nx⟩:=
 JL.yield (s:=⟨L,H,nx⟩) Kp rfl rfl hu ha hc hl hb he (j9 hd) h
section
variable {M:Mem}{ρ:Env}{a:Act}{w:World}{all l:List Oper}{L:List (Nat×AV)}{H:List (Nat×HO)}{nx d:Nat}{c1:List Prop}{ty:TypeId}{ps:String}{af:Array Edge}
def JL.boxP{t:TypeId}{x:Operand}{v:AV}(hu:opd L x=some (c1,v))(hv:v.mpB=true)(hc:allP c1)(hd:ltB d X.n=true)(k:JL X true all QA l ⟨(d,.pfn v)::L,H,nx⟩) :
  JL X true all QA (⟨some d,.box t x,ty,ps,af,none⟩::l) ⟨L,H,nx⟩:=by
 intro M ρ a w h1 h2;obtain⟨hw,hy⟩:=z5 (s:=⟨L,H,nx⟩) hu hc h2;obtain⟨f,hB⟩:=mpB_rv hv hy;have hJ:d<X.n:=j9 hd;have hC:=h2.size;have hE:=h1.below.size
 let p:Value:=.pointer (some ⟨w.heap.size,0,none⟩)
 let w2:World:=w.alloc (.cells #[a.eval x] t)
 have hr:(execOp a.eval ⟨some d,.box t x,ty,ps,af,none⟩).run X.P w=.ok (.value p) w2:=by
  have hg:(a.eval x).cells=#[a.eval x]:=by rw[hB];rfl
  simp only[execOp,Instr.box,yye,newVar,newRow,run_newObj,yyb,yyf,hg];rfl
 let M':Mem:=fun b=>if b=w.heap.size then some (.cells #[a.eval x] t (0,0)) else M b
 have ha:∀ b o,M b=some o→M' b=some o:=fun b o hb=>by show(if b=w.heap.size then _ else _)=_;rw[if_neg (by have:=(yyi.1 (h1.mem _ _ hb)).1;omega)];exact hb
 have hM:Mem.le M M':=fun b c ty fz hb=>ha b _ hb;have hF:w2.heap[w.heap.size]?=some (.cells #[a.eval x] t (0,0)):=World.alloc_heap_new w _;have hA:Below w.heap.size w w2:=(Below.refl _ _).alloc (yyl _) _;have hG:SAT X M' ρ ⟨L,H,nx⟩ w2:=h1.ext hA hM (fun b o hb=>by
  by_cases e:b=w.heap.size
  ·subst e;have hh:(if w.heap.size=w.heap.size then some (Obj.cells #[a.eval x] t (0,0)) else M w.heap.size)=some o:=hb;rw[if_pos rfl] at hh;rw[← hh];exact hF
  ·have hh:(if b=w.heap.size then some (Obj.cells #[a.eval x] t (0,0)) else M b)=some o:=hb;rw[if_neg e] at hh;have hH:=(yyi.1 (h1.mem b o hh)).1;rw[hA.block b hH];exact h1.mem b o hh) (fun b hb=>by
  show(if b=w.heap.size then _ else _)=_;rw[if_neg (by omega)])
 have hj:REG X M' ρ ⟨(d,.pfn v)::L,H,nx⟩ (a.put (some d) p):=by
  refine⟨by simp[Act.put,hC],let ⟨Ds,e1,e2,e3,e4⟩:=h2.defers;⟨Ds,e1,e2,fun D hD=>⟨(e3 D hD).1,ha _ _ (e3 D hD).2⟩,e4⟩,fun e y he=>?_⟩;simp only[lk] at he;by_cases hk:d=e
  ·subst hk;rw[if_pos rfl] at he;injection he with he;subst he
   refine⟨hw,?_⟩;simp only[AV.rv];refine⟨w.heap.size,_,t,(0,0),?_,?_,j5 hM (Env.upTo.refl ρ nx) hw hy⟩
   ·show(a.put (some d) p).tmps.getD d Go.undef=p;simp only[Act.put,yyr];rw[yxq (by omega)];rfl
   ·show(if w.heap.size=w.heap.size then _ else _)=_;rw[if_pos rfl]
  ·rw[if_neg hk] at he;have:=h2.reg e y he;refine⟨this.1,?_⟩;have e3:((a.put (some d) p).tmps.getD e Go.undef)=a.tmps.getD e Go.undef:=by simp only[Act.put,yyr];rw[yxs hk]
   rw[e3];exact j5 hM (Env.upTo.refl ρ nx) this.1 this.2
 exact z9 (j6 rfl) (w3 rfl hr (k M' ρ _ w2 (hG.regs _) hj))
def JK.boxP{rr:List Fr}{t:TypeId}{x:Operand}{v:AV}(hu:opd L x=some (c1,v))(hv:v.mpB=true)(hc:allP c1)(hd:ltB d X.n=true)(k:JK X (.ops true all l::rr) QA ⟨(d,.pfn v)::L,H,nx⟩) :
  JK X (.ops true all (⟨some d,.box t x,ty,ps,af,none⟩::l)::rr) QA ⟨L,H,nx⟩:=JL.boxP hu hv hc hd k
end
variable {all l:List Oper}{L:List (Nat×AV)}{H:List (Nat×HO)}{nx d m n:Nat}{c1 c2:List Prop}{ty t:TypeId}{ps:String}{af:Array Edge}{x y:Operand}{e:Ty}
def z7s(hX:XOK X)(hT:lk X.T t=some (.slice e))(hu:opd L x=some (c1,.val (.int .i64) (n:Int)))(hv:opd L y=some (c2,.val (.int .i64) (n:Int)))(hn:n≤100000000)(hc:allP c1)(he:allP c2)(hd:ltB d X.n=true)
  (k:JL X true all QA l ⟨(d,.lf (.oarr nx [] n n))::L,(nx,.cell (.arr n e) (.val (.arr n e) (List.replicate n e.dflt)))::H,nx+1⟩):JL X true all QA (⟨some d,.makeSlice t x y,ty,ps,af,none⟩::l) ⟨L,H,nx⟩:=by
 refine q08 rfl rfl (j9 hd) (v:=.lf (.oarr nx [] n n)) (s':=⟨L,(nx,.cell (.arr n e) (.val (.arr n e) (List.replicate n e.dflt)))::H,nx+1⟩) (fun M ρ a w h1 h2=>?_) k;have ex:=z5 (s:=⟨L,H,nx⟩) hu hc h2;have ey:=z5 (s:=⟨L,H,nx⟩) hv he h2;rw[w6] at ex ey;obtain⟨eid',hu,ha⟩:=q5t (hX.t _ _ hT) (Int.natCast_nonneg n) (by omega) w;rw[Int.toNat_natCast] at ha;have hg:RL M e (List.replicate n e.dflt) (List.replicate n e.zc).flatten:=RL.replicate (w7 M e) _;have hb:=h1.newCell (t:=.arr n e) (v:=.val (.arr n e) (List.replicate n e.dflt)) (c:=(List.replicate n e.zc).flatten.toArray) (id:=eid') (by simp[confB]) trivial (by simp only[AV.rc];rw[q16];exact⟨by simp,hg⟩);refine⟨_,_,.value (.slice (some ⟨w.heap.size,0,none⟩) n n),?_,j8 ρ nx w.heap.size (.arr n e) Go.undef,yy5 _,rfl,hb,yy2 _,.inl ⟨_,rfl,?_⟩⟩
 ·simp only[execOp,ex.2,ey.2,yye,ha,yyb,yyf]
 ·rw[w9];simp[Leaf.at,Env.with,q1a,Value.oneCell']
def z7u{r:List Fr}(hX:XOK X)(hT:lk X.T t=some (.slice e))(hu:opd L x=some (c1,.val (.int .i64) (n:Int)))(hv:opd L y=some (c2,.val (.int .i64) (n:Int)))(hn:n≤100000000)(hc:allP c1)(ha:allP c2)(hd:ltB d X.n=true)
  (k:JK X (.ops true all l::r) QA ⟨(d,.lf (.oarr nx [] n n))::L,(nx,.cell (.arr n e) (.val (.arr n e) (List.replicate n e.dflt)))::H,nx+1⟩):JK X (.ops true all (⟨some d,.makeSlice t x y,ty,ps,af,none⟩::l)::r) QA ⟨L,H,nx⟩:=
 z7s hX hT hu hv hn hc ha hd k
def z7o{p:List Step}(hX:XOK X)(hT:lk X.T t=some (.slice e))(hu:opd L x=some (c1,.lf (.oarr m p n k)))(hc:allP c1) :
  RdY X ⟨some d,.call {callee:=.builtin .len,args:=#[x],argTypes:=#[t]},ty,ps,af,none⟩ ⟨L,H,nx⟩ (.val (.int .i64) (n:Int)):=by
 intro M ρ a w h1 h2;obtain⟨hb,hv⟩:=z5 (s:=⟨L,H,nx⟩) hu hc h2;have hx:=(w9.1 hv).1;simp only[Leaf.at,yya] at hx;refine⟨trivial,.int .i64 n,w6.2 rfl,?_⟩;have ht:=hX.t _ _ hT;simp only[TyOf] at ht;obtain⟨eid,hs,he⟩:=ht;simp[execOp,resolve,invoke,builtin,← hx,Builtin.len_,run_underlying hs.under,Builtin.lenOf,goInt]
def t7{kk:IntKind}{i:Int}{i0:Operand}{te':AV}(hX:XOK X)(hT:lk X.T t=some (.slice e))(hu:opd L x=some (c1,.lf (.oarr m [] n k)))(hi:opd L i0=some (c2,.val (.int kk) i))(hm:lk H m=some (.cell (.arr n e) te'))(hc:allP c1)(hd:allP c2)(h0:0≤i)(hn:i<n) :
  RdY X ⟨some d,.indexAddr t x i0,ty,ps,af,none⟩ ⟨L,H,nx⟩ (.lf (.optr m [.idx (Int.toNat i)])):=by
 intro M ρ a w h1 h2;obtain⟨hb,hv⟩:=z5 (s:=⟨L,H,nx⟩) hu hc h2;have ei:=z5 (s:=⟨L,H,nx⟩) hi hd h2;rw[w6] at ei;have he:ρ.ty m=.arr n e:=by have:=x9 (s:=⟨L,H,nx⟩) h1 hm;simp only[HO.ok] at this;exact this.1
 have hx:=(w9.1 hv).1;simp only[Leaf.at,yya,q1a] at hx;have ha:=q0n (hX.t _ _ hT) (kk:=kk) (b:=ρ.blk m) (off:=0) (cap:=k) h0 hn w;refine⟨hb,.pointer (some ⟨ρ.blk m,0+i.toNat*e.size,none⟩),w9.2 ⟨?_,rfl⟩,?_⟩
 ·simp[Leaf.at,he,Ty.off,q1a]
 ·simp only[execOp,← hx,ei.2,yye,ha,yyb,yyf]
variable {M:Mem}{ρ:Env}{w:World}{r:List Fr}
variable {L':List (Nat×AV)}{H':List (Nat×HO)}{nx':Nat}{c0 c3:List Prop}{o0 o1 o2 o3:Operand}
def cell_rv(h1:SAT X M ρ s w){t:Ty}{x:t.den}(hl:lk s.H m=some (.cell t (.val t x))) :
  (AV.val (.ptr t) (some x)).rv (fun b=>w.heap[b]?) ρ (.pointer (some ⟨ρ.blk m,0,none⟩)):=by
 obtain⟨_,_,_,_,_,c,ty,hh,hr⟩:=h1.own m _ hl;have hx:Rep (fun b=>w.heap[b]?) t x c.toList:=Rep.mono (fun b c ty fz hb=>h1.mem b _ hb) hr;have hs:=Rep.length hx;refine q25.2 ⟨_,0,c,ty,(0,0),rfl,hh,?_⟩;rw[List.drop_zero,← hs,yx6];exact hx
variable{g:FuncId}
def JL.callT{t B1 B2:Ty}{x:t.den}{y1:B1.den}{y2:B2.den}{v:AV}
  (hf:Fn X.P f (.acons (.val (.ptr t) (some x)) (.acons (.val B1 y1) (.acons (.val B2 y2) (.acons (.fn g (.acons (.val (.ptr t) (some x)) .anil) .anil) .anil)))) (·=v)) (hr:v.scal=true) (hd:ltB d X.n=true)
  (h0:opd L o0=some (c0,.lf (.optr m []))) (hl:lk H m=some (.cell t (.val t x))) (h1:opd L o1=some (c1,.val B1 y1)) (h2:opd L o2=some (c2,.val B2 y2)) (h3:opd L o3=some (c3,.fn g (.acons (.lf (.optr m [])) .anil) .anil)) (hc:allP c0∧allP c1∧allP c2∧allP c3)
  (k:JL X true all QA l ⟨(d,v)::L,H,nx⟩):JL X true all QA (⟨some d,.call ⟨.value (.func f),#[o0,o1,o2,o3],ts⟩,ty,ps,af,none⟩::l) ⟨L,H,nx⟩:=by
 refine JL.callN hf hr hd ⟨trivial,trivial,trivial,⟨⟨trivial,trivial⟩,trivial⟩,trivial⟩ (fun M ρ a w k1 k2=>?_) k;have e0:=(w9.1 (z5 (s:=⟨L,H,nx⟩) h0 hc.1 k2).2).1;simp only[Leaf.at,yya,q1a] at e0;have e1:=(z5 (s:=⟨L,H,nx⟩) h1 hc.2.1 k2).2;have e2:=(z5 (s:=⟨L,H,nx⟩) h2 hc.2.2.1 k2).2;have e3:=(z5 (s:=⟨L,H,nx⟩) h3 hc.2.2.2 k2).2;have ha:∀ {B:Ty} {y:B.den} {u:Value},(AV.val B y).rv M ρ u→(AV.val B y).rv (fun b=>w.heap[b]?) ρ u:=fun e=>j5 (n:=0) (fun b c ty fz hb=>k1.mem b _ hb) (fun l hl=>absurd hl (Nat.not_lt_zero _)) trivial e;have hp:=cell_rv (s:=⟨L,H,nx⟩) k1 hl;refine⟨a.eval o0,_,by rw[← e0];exact hp,⟨a.eval o1,_,ha e1,⟨a.eval o2,_,ha e2,⟨a.eval o3,_,?_,rfl,rfl⟩,rfl⟩,rfl⟩,rfl⟩;simp only[AV.rv,AV.rvs] at e3 ⊢;obtain⟨fs,ks,q1,q2,q3⟩:=e3;obtain⟨u,us,u1,u2,u3⟩:=q1;have hu:=(w9.1 (show(AV.lf (.optr m [])).rv M ρ u from by first|exact u1|(simp only[AV.rv];exact u1))).1;simp only[Leaf.at,yya,q1a] at hu;refine⟨fs,ks,⟨u,us,?_,u2,u3⟩,q2,q3⟩;rw[← hu];first|exact hp|(have:=hp;simp only[AV.rv] at this;exact this)
def z6t{t B1 B2:Ty}{x:t.den}{y1:B1.den}{y2:B2.den}{v:AV}
  (hf:Fn X.P f (.acons (.val (.ptr t) (some x)) (.acons (.val B1 y1) (.acons (.val B2 y2) (.acons (.fn g (.acons (.val (.ptr t) (some x)) .anil) .anil) .anil)))) (·=v)) (hr:v.scal=true)
  (h0:opd L o0=some (c0,.lf (.optr m []))) (hl:lk H m=some (.cell t (.val t x))) (h1:opd L o1=some (c1,.val B1 y1)) (h2:opd L o2=some (c2,.val B2 y2)) (h3:opd L o3=some (c3,.fn g (.acons (.lf (.optr m [])) .anil) .anil)) (hd:ltB d X.n=true) (hc:allP c0∧allP c1∧allP c2∧allP c3)
  (k:JK X (.ops true all l::r) QA ⟨(d,v)::L,H,nx⟩):JK X (.ops true all (⟨some d,.call ⟨.value (.func f),#[o0,o1,o2,o3],ts⟩,ty,ps,af,none⟩::l)::r) QA ⟨L,H,nx⟩:=JL.callT hf hr hd h0 hl h1 h2 h3 hc k
def allH(H:List (Nat×HO)):List (Nat×HO)→Prop
 |[]=>True
 |(l,o)::r=>lk H l=some o∧allH H r
def q3q:∀ {H':List (Nat×HO)},allH H H'→subH H H'
 |[],_=>fun l q hq=>by cases hq
 |(m,o)::r,h=>fun l q hq=>by
  simp only[lk] at hq;by_cases e:m=l
  ·subst e;rw[if_pos rfl] at hq;rw[h.1,hq]
  ·rw[if_neg e] at hq;exact q3q h.2 l q hq
variable {a:Act}{w':World}{o:Oper}
section
variable {L:List (Nat×AV)}{H:List (Nat×HO)}{nx:Nat}{ty:TypeId}{ps:String}{af:Array Edge}{md:Bool}{c1:List Prop}
variable {kt:Ty}{t:TypeId}{om ok:Operand}{c2:List Prop}{x y:kt.den}{dd:Nat}{g:Bool}{gg:Nat×Bool}
end
end Ox
namespace Go.Proofs.YtjecebccchhmhaaGreatDoor.Dp
open Go Go.RowKit Ox Ox.Gl
attribute [local irreducible] JC JL JK JW
def kdI(f s lo hi p q:Int):Int:=if p=q then 0 else if tchB f s lo p q=true then 2 else if tchB f s hi p q=true then 1 else 0
def kL(g:Nat→Nat→Int):List (List Int):=(List.range 12).map fun a=>(List.range 12).map fun b=>g a b
def kL_get{a:Nat}(h:a<12):List.getD (kL g) a d=(List.range 12).map fun b=>g a b:=by rw[kL,yyq,List.getElem?_map,List.getElem?_range h];rfl
def kL_at{a b:Nat}(h:a<12)(hb:b<12):List.getD (List.getD (kL g) a d) b e=g a b:=by rw[kL_get h,yyq,List.getElem?_map,List.getElem?_range hb];rfl
def z5p{g h:Nat→Nat→Int}(e:∀ a,a<12→∀ b,b<12→g a b=h a b):kL g=kL h:=List.map_congr_left fun a ha=>List.map_congr_left fun b hb=>e a (yy3.1 ha) b (yy3.1 hb)
def q7p{α:Type}{g:Nat→α}{v:α}:List.set ((List.range m).map g) k v=(List.range m).map fun i=>if i=k then v else g i:=by
 refine List.ext_getElem? fun j=>?_;rw[List.getElem?_set,List.getElem?_map,List.getElem?_map,yx5,List.length_range];by_cases hj:j<m
 ·rw[List.getElem?_range hj];by_cases e:k=j
  ·subst e;rw[if_pos rfl,if_pos hj];simp
  ·rw[if_neg e];simp[Ne.symm e]
 ·rw[yxe (by rw[List.length_range];omega)];by_cases e:k=j
  ·subst e;rw[if_pos rfl,if_neg hj];rfl
  ·rw[if_neg e];rfl
def kL_set{a b:Nat}(h:a<12):List.set (kL g) a (List.set (List.getD (kL g) a d) b v)=kL fun a' b'=>if a'=a∧b'=b then v else g a' b':=by
 rw[kL_get h,q7p];unfold kL;rw[q7p];refine List.map_congr_left fun a' _=>?_;by_cases e:a'=a
 ·subst e;rw[if_pos rfl];refine List.map_congr_left fun b' _=>?_;by_cases e2:b'=b
  ·rw[if_pos e2];exact(if_pos ⟨rfl,e2⟩).symm
  ·rw[if_neg e2];exact(if_neg (fun h=>e2 h.2)).symm
 ·rw[if_neg e];exact List.map_congr_left fun b' _=>(if_neg (fun h=>e h.1)).symm
def kL_zero:List.replicate 12 (List.replicate 12 (0:Int))=kL fun _ _=>0:=by decide
def kdA(f s lo hi:Int)(n i j a b:Nat):Int:=if (a<i∨(a=i∧b<j))∧b<n+2 then kdI f s lo hi ((a:Int)-2) ((b:Int)-2) else 0
def kdT(f s lo hi:Int)(n:Nat):List (List Int):=kL (kdA f s lo hi n (n+2) 0)
def z5n(f s lo hi:Int){n i j:Nat}(hj:j<n+2)(a b:Nat):kdA f s lo hi n i (j+1) a b=if a=i∧b=j then kdI f s lo hi ((i:Int)-2) ((j:Int)-2) else kdA f s lo hi n i j a b:=by
 unfold kdA;by_cases e:a=i∧b=j
 ·obtain⟨rfl,rfl⟩:=e;rw[if_pos ⟨Or.inr ⟨rfl,by omega⟩,hj⟩,if_pos ⟨rfl,rfl⟩]
 ·rw[if_neg e];by_cases e2:(a<i∨(a=i∧b<j))∧b<n+2
  ·rw[if_pos e2,if_pos ⟨by omega,e2.2⟩]
  ·rw[if_neg e2,if_neg (by omega)]
def kdA_self(f s lo hi:Int){n i j:Nat}:kdA f s lo hi n i j i j=0:=by unfold kdA;rw[if_neg (by omega)]
def z5o{f s lo hi:Int}{n i j:Nat}(hj:j<n+2)(h:kdI f s lo hi ((i:Int)-2) ((j:Int)-2)=0):kL (kdA f s lo hi n i j)=kL (kdA f s lo hi n i (j+1)):=z5p fun a _ b _=>by
 rw[z5n f s lo hi hj];by_cases e:a=i∧b=j
 ·rw[if_pos e,h,e.1,e.2,kdA_self]
 ·rw[if_neg e]
def j0p{f s lo hi v:Int}{n i j:Nat}(hj:j<n+2)(ha:i<12)(h:kdI f s lo hi ((i:Int)-2) ((j:Int)-2)=v){p q:Nat}(hp:p=i)(hq:q=j) :
  List.set (kL (kdA f s lo hi n i j)) p (List.set (List.getD (kL (kdA f s lo hi n i j)) p d) q v)=kL (kdA f s lo hi n i (j+1)):=by
 subst hp hq;rw[kL_set ha];exact z5p fun a _ b _=>by rw[z5n f s lo hi hj,h]
def kdA_row(f s lo hi:Int)(n i:Nat):kL (kdA f s lo hi n i (n+2))=kL (kdA f s lo hi n (i+1) 0):=z5p fun a _ b _=>by
 unfold kdA;by_cases e:(a<i∨(a=i∧b<n+2))∧b<n+2
 ·rw[if_pos e,if_pos (by omega)]
 ·rw[if_neg e,if_neg (by omega)]
attribute [irreducible] kL
def szI(lo hi:Int)(n i:Nat):List RgD:=(List.range n).map fun k=>if k<i then(lo,hi,()) else(0,0,())
def szI_len(lo hi:Int)(n i:Nat):(szI lo hi n i).length=n:=by simp[szI]
def szI_get(lo hi:Int){n i:Nat}(h:i<n):(szI lo hi n i).getD i (0,0,())=(0,0,()):=by rw[szI,yyq,List.getElem?_map,List.getElem?_range h];simp
def szI_set(lo hi:Int){n i:Nat}:(szI lo hi n i).set i (lo,hi,())=szI lo hi n (i+1):=by
 rw[szI,q7p,szI];refine List.map_congr_left fun k _=>?_;by_cases e:k=i
 ·subst e;rw[if_pos rfl,if_pos (by omega)]
 ·rw[if_neg e];by_cases e2:k<i
  ·rw[if_pos e2,if_pos (by omega)]
  ·rw[if_neg e2,if_neg (by omega)]
def szI_all(lo hi:Int)(n:Nat):szI lo hi n n=rgS lo hi n:=by
 rw[szI,rgS];refine List.ext_getElem? fun j=>?_;rw[List.getElem?_map,List.getElem?_replicate];by_cases hj:j<n
 ·rw[List.getElem?_range hj,if_pos hj];simp[hj]
 ·rw[yxe (by rw[List.length_range];omega),if_neg hj];rfl
def szI_zero(lo hi:Int)(n:Nat):List.replicate n (0,0,())=szI lo hi n 0:=by
 rw[szI];refine List.ext_getElem? fun j=>?_;rw[List.getElem?_map,List.getElem?_replicate];by_cases hj:j<n
 ·rw[List.getElem?_range hj,if_pos hj];simp
 ·rw[yxe (by rw[List.length_range];omega),if_neg hj];rfl
def ltk{a b:Nat}(h:Nat.ble (a+1) b=true):a<b:=yyd h
abbrev HT(S:List SpD)(D:List DrD)(R:List RgD):List (Nat×HO):=[(0,.cell baT (vBa S D)),(1,.sl 38 rgT R),(2,.cell taT (mkMix (vBa S D) (mkMix (.lf (.osl 1)) (zav (.cons (.arr 12 (.arr 12 (.int .i64))) .nil))))),(3,.cell (.ptr taT) (.lf (.optr 2 [])))]
abbrev LT(D:List DrD)(i:Nat):List (Nat×AV):=[(1,.lf (.optr 0 [])),(3,.lf (.optr 3 [])),(17,.val (.slice drT) D),(18,vI D.length),(19,vI (i:Int))]
abbrev HT5(S:List SpD)(D:List DrD)(R:List RgD)(q:DrD):List (Nat×HO):=HT S D R++[(4,.cell drT (.val drT q))]
abbrev LO1:List (Nat×AV):=[(3,.lf (.optr 3 []))]
abbrev LO2:List (Nat×AV):=[(3,.lf (.optr 3 [])),(7,.lf (.optr 9 []))]
abbrev TbC(S:List SpD)(D:List DrD)(R:List RgD)(K:List (List Int)):HO:=.cell taT (.val taT (mkTa S D R K))
abbrev PtC:HO:=.cell (.ptr taT) (.lf (.optr 2 []))
abbrev H1(a b:Code)(S:List SpD)(D:List DrD)(R:List RgD)(K:List (List Int)):List (Nat×HO):=[(7,.fr 0 [(94,.lf (.yld 6)),(3,.lf (.optr 3 []))]),(6,.loop .ready none #[53] a b 94 LO1),(5,PtC),(3,PtC),(2,TbC S D R K)]
abbrev H2(st:LoopState)(a b c d:Code)(S:List SpD)(D:List DrD)(R:List RgD)(i:Nat)(K:List (List Int)):List (Nat×HO):=
 [(13,.fr 2 [(94,.lf (.yld 12)),(3,.lf (.optr 3 [])),(7,.lf (.optr 9 []))]),(12,.loop st none #[56] c d 94 LO2),(11,PtC),(9,.cell (.int .i64) (vI ((i:Int)-2))),(8,.fr 1 [(18,.lf (.yld 6)),(0,.lf (.yld 6)),(1,.lf (.optr 5 [])),(3,vI ((i:Int)-2))]),
  (7,.fr 0 [(94,.lf (.yld 6)),(3,.lf (.optr 3 []))]),(6,.loop .busy none #[53] a b 94 LO1),(5,PtC),(3,PtC),(2,TbC S D R K)]
variable{D:List DrD}{R:List RgD}
def H2_bd{st:LoopState}{a b c d:Code}{S:List SpD}:bdH 14 (H2 st a b c d S D R i K):=⟨ltk rfl,y6 ⟨ltk rfl,ltk rfl,ltk rfl,trivial⟩,ltk rfl,s7 ⟨ltk rfl,ltk rfl,trivial⟩,ltk rfl,ltk rfl,ltk rfl,trivial,ltk rfl,y6 ⟨ltk rfl,ltk rfl,ltk rfl,trivial,trivial⟩,ltk rfl,y6 ⟨ltk rfl,ltk rfl,trivial⟩,ltk rfl,s7 ⟨ltk rfl,trivial⟩,ltk rfl,ltk rfl,ltk rfl,ltk rfl,ltk rfl,trivial,trivial⟩
def H1_bd{S:List SpD}:bdH 8 (H1 a b S D R K):=⟨ltk rfl,y6 ⟨ltk rfl,ltk rfl,trivial⟩,ltk rfl,s7 ⟨ltk rfl,trivial⟩,ltk rfl,ltk rfl,ltk rfl,ltk rfl,ltk rfl,trivial,trivial⟩
variable {f s lo hi:Int}{n:Nat}
set_option maxHeartbeats 4000000 in
def fn140(h:okB f s lo hi n):Ox.Fn Tryz.prog 140 (.acons (vBa (spS f s n) (drS lo hi n)) .anil) (·=pTa f s lo hi n (kdT f s lo hi n)):=by
 refine zI Tryz.func140 rfl Tryz.call140 rfl fun E M0 up=>?_;have hw:=q09 f s n;have hB:=z0x lo hi n;have h2:=h.n2;have h6:=h.n6;generalize hS:spS f s n=S at hw ⊢;generalize hD:drS lo hi n=D at hB ⊢;refine zK2 ?_;refine g9 xk (Tryz.f140.body.getD .skip) ⟨[(1,.lf (.optr 0 [])),(3,.lf (.optr 3 []))],HT S D (List.replicate S.length (0,0,())),4⟩ rfl 9 rfl ?_ ?_
 ·(refine q7 1 xk rfl rfl (z6 0 xk rfl rfl (z6 2 xk rfl rfl (z6 3 xk rfl rfl ?_)));refine j0 4 [7] xk ?_ ?_;exact zS;refine(BrF.one rfl rfl ?_ (BrF.one rfl rfl ?_ BrF.nil));(· (refine q19 xk rfl rfl ?_);refine q8 ?_;refine j0 5 [7] xk ?_ ?_;exact zS;refine(BrF.one rfl rfl ?_ (BrF.one rfl rfl ?_ BrF.nil));(· refine zK11 ?_;refine q8 ?_;refine j0 6 [7] xk ?_ ?_;exact zS;refine(BrF.one rfl rfl ?_ (BrF.one rfl rfl ?_ BrF.nil));(· refine zK7 ?_;refine q8 ?_;refine zU 7 xk rfl rfl ?_;(refine q19 xk rfl rfl ?_);refine q8 ?_;refine zU 8 xk rfl rfl ?_;exact zB2);(· (refine q19 xk rfl rfl ?_);refine q8 ?_;refine zU 6 xk rfl rfl ?_;refine zK7 ?_;refine q8 ?_;refine zU 8 xk rfl rfl ?_;refine zK3 ?_;refine q8 ?_;refine v7 xk StF.nil ?_;(exact zJ)));(· (refine q19 xk rfl rfl ?_);refine q8 ?_;refine zU 5 xk rfl rfl ?_;refine zK11 ?_;refine q8 ?_;refine zU 6 xk rfl rfl ?_;refine zK7 ?_;refine q8 ?_;refine zU 8 xk rfl rfl ?_;refine zK3 ?_;refine q8 ?_;refine v7 xk StF.nil ?_;(exact zJ)));(· (refine q19 xk rfl rfl ?_);refine q8 ?_;refine zU 4 xk rfl rfl ?_;(refine q19 xk rfl rfl ?_);refine q8 ?_;refine zU 5 xk rfl rfl ?_;refine zK11 ?_;refine q8 ?_;refine zU 6 xk rfl rfl ?_;refine zK7 ?_;refine q8 ?_;refine zU 8 xk rfl rfl ?_;exact zB2))
 refine zK0 ?_;have hC:=szI_zero lo hi n;rw[hw,hC];have l1:=h.l1;have l2:=h.l2;have l3:=h.l3;refine JK.loop (fun i:Nat=>⟨LT D i,HT S D (szI lo hi n i),4⟩) (fun i=>i≤n) (fun i=>n-i) 0 (yyw _) (JW.same ⟨rfl,rfl,rfl,rfl,rfl,trivial⟩) fun i hR=>?_;have hg:=fun h:i<n=>szI_get lo hi h;have ha:=szI_set lo hi (n:=n) (i:=i);have hE:=szI_len lo hi n i;have hall:i=n→szI lo hi n i=rgS lo hi n:=fun e=>by rw[e];exact szI_all lo hi n
 generalize hF:szI lo hi n (i+1)=R' at ha;generalize szI lo hi n i=R at hg ha hE hall ⊢;refine zK0 ?_;refine q9 rfl (fun hc=>?_) (fun hc=>?_)
 ·replace hc:=zC hc;have hb:i<n:=by omega
  have hg:=hg hb;have hq:=drS_get lo hi hb;rw[hD] at hq;have hG:D.getD (Int.toNat (i:Int)) drT.dflt=((i:Int),(lo,hi,()),()):=hq;refine zK2 ?_;rw[hG];have hy:(0:Int)≤(i:Int)∧(i:Int)<R.length:=by omega
  refine g9 xk (Tryz.f140.body.getD .skip) ⟨LT D i++[(5,.lf (.optr 4 [])),(6,.lf (.oelt 1 i []))],HT5 S D R ((i:Int),(lo,hi,()),()),5⟩ rfl 8 rfl ?_ ?_
  ·(refine q7 4 xk rfl rfl (z6 0 xk rfl rfl (z6 1 xk rfl rfl (z6 2 xk rfl rfl (z6 3 xk rfl rfl (z6 5 xk rfl rfl (z6 6 xk rfl rfl (z6 7 xk rfl rfl ?_)))))));refine v7 xk ?_ ?_;exact zS;(exact zJ))
  have b6:-9223372036854775808≤(R.getD i (0,0,())).1+lo∧(R.getD i (0,0,())).1+lo≤9223372036854775807:=by rw[hg];show _≤0+lo∧0+lo≤_;omega
  refine zK2 ?_;refine g9 xk (Tryz.f140.body.getD .skip) ⟨LT D i++[(5,.lf (.optr 4 [])),(6,.lf (.oelt 1 i []))],HT5 S D (R.set i ((R.getD i (0,0,())).1+lo,(R.getD i (0,0,())).2)) ((i:Int),(lo,hi,()),()),5⟩ rfl 11 rfl ?_ ?_
  ·(refine q7 0 xk rfl rfl (q7 1 xk rfl rfl (q7 2 xk rfl rfl (q7 4 xk rfl rfl (q7 5 xk rfl rfl (z6 3 xk rfl rfl (z6 6 xk rfl rfl (z6 7 xk rfl rfl (z6 8 xk rfl rfl (z6 9 xk rfl rfl (zU 10 xk rfl rfl ?_))))))))));exact zB1)
  have e6:R.set i ((R.getD i (0,0,())).1+lo,(R.getD i (0,0,())).2)=R.set i (lo,0,()):=by rw[hg];show R.set i (0+lo,0,())=_;rw[Int.zero_add]
  rw[e6];have hh:(R.set i (lo,0,())).getD i (0,0,())=(lo,0,()):=by rw[yyq,List.getElem?_set,if_pos rfl,if_pos (by omega)];rfl
  have hA:(R.set i (lo,0,())).set i (lo,hi,())=R':=by rw[List.set_set];exact ha
  have hy:(0:Int)≤(i:Int)∧(i:Int)<(R.set i (lo,0,())).length:=by rw[List.length_set];omega
  have hv:i<(R.set i (lo,0,())).length:=by rw[List.length_set];omega
  generalize R.set i (lo,0,())=R6 at hh hA hy hv ⊢;have b7:-9223372036854775808≤(R6.getD i (0,0,())).2.1+hi∧(R6.getD i (0,0,())).2.1+hi≤9223372036854775807:=by rw[hh];show _≤0+hi∧0+hi≤_;omega
  refine zK2 ?_;refine z1b xk (Tryz.f140.body.getD .skip) ⟨LT D i,HT S D (R6.set i ((R6.getD i (0,0,())).1,(R6.getD i (0,0,())).2.1+hi,())),4⟩ rfl 11 rfl ?_ ?_
  ·(refine q7 0 xk rfl rfl (q7 1 xk rfl rfl (q7 2 xk rfl rfl (q7 4 xk rfl rfl (q7 5 xk rfl rfl (z6 3 xk rfl rfl (z6 6 xk rfl rfl (z6 7 xk rfl rfl (z6 8 xk rfl rfl (z6 9 xk rfl rfl (zU 10 xk rfl rfl ?_))))))))));exact zB1)
  have e7:R6.set i ((R6.getD i (0,0,())).1,(R6.getD i (0,0,())).2.1+hi,())=R':=by rw[hh];show R6.set i (lo,0+hi,())=_;rw[Int.zero_add,hA]
  rw[e7];refine zK0 ?_;refine⟨i+1,?_,by omega,by omega⟩;dsimp only;rw[hF];exact JW.same ⟨rfl,rfl,rfl,rfl,rfl,trivial⟩
 ·replace hc:=zC hc;have e:i=n:=by omega
  rw[hall e]
  (refine z20 [1] [3] rfl ?_)
  refine z1c 2 rfl rfl ?_;have ez:(Ty.arr 12 (.arr 12 (.int .i64))).dflt=kL fun _ _=>0:=kL_zero;refine u9 (s':=⟨[(3,.lf (.optr 3 []))],[(3,.cell (.ptr taT) (.lf (.optr 2 []))),(2,.cell taT (.val taT (mkTa S D (rgS lo hi n) (kL fun _ _=>0))))],4⟩) (by rw[← ez];exact JW.low ⟨rfl,trivial⟩ (q3q ⟨rfl,rfl,trivial⟩) ⟨ltk rfl,trivial⟩ ⟨ltk rfl,ltk rfl,ltk rfl,trivial,trivial⟩) ?_;refine zK0 ?_;refine q0k [3] rfl rfl trivial Tryz.func70 rfl Tryz.call70 (yyd rfl) rfl fun M1 up1=>?_;refine zK6 ?_;refine n8 rfl rfl rfl rfl ?_;refine zK0 ?_;refine q2m [3] rfl rfl Tryz.func141 rfl Tryz.call141 (yyd rfl) trivial fun M3 up3 a1 b1 hH hJ=>?_;refine zK0 ?_;have hK:kL (fun _ _=>0)=kL (kdA f s lo hi n 0 0):=z5p fun a _ b _=>by unfold kdA;rw[if_neg (by omega)]
  rw[hK];refine JK.loop (fun i:Nat=>⟨[(0,.lf (.yld 6)),(1,.lf (.optr 5 [])),(3,vI ((i:Int)-2))],H1 a1 b1 S D (rgS lo hi n) (kL (kdA f s lo hi n i 0)),8⟩) (fun i=>i≤n+2) (fun i=>n+2-i) 0 (yyw _) (JW.same ⟨rfl,rfl,rfl,trivial⟩) fun i hb=>?_;refine zK0 ?_;refine q9 rfl (fun hc=>?_) (fun hc=>?_)
  ·have hc:(i:Int)-2<S.length:=of_decide_eq_true hc;refine zK0 ?_;refine q2l [0,1,3] rfl rfl rfl rfl rfl rfl trivial fun M4 up4 bl hL=>JK.start (v9 hH ?_);refine zK0 ?_;refine k7 (q0f rfl rfl rfl rfl (JK.start (v9 hJ ?_)));refine zK0 ?_;refine q0k [3,7] rfl rfl trivial Tryz.func70 rfl Tryz.call70 (yyd rfl) rfl fun M5 up5=>?_;refine zK6 ?_;refine n8 rfl rfl rfl rfl ?_;refine zK0 ?_;refine z2y [3,7] (lf:=8) (lab0:=6) rfl hL rfl rfl rfl rfl Tryz.func141 rfl Tryz.call141 (yyd rfl) trivial fun M6 up6 a2 b2 hM hN=>?_;refine zK0 ?_;refine JK.loop (fun j:Nat=>⟨[(0,.lf (.yld 12)),(1,.lf (.optr 11 [])),(3,vI ((j:Int)-2))],H2 .ready a1 b1 a2 b2 S D (rgS lo hi n) i (kL (kdA f s lo hi n i j)),14⟩) (fun j=>j≤n+2) (fun j=>n+2-j) 0 (yyw _) (JW.same ⟨rfl,rfl,rfl,trivial⟩) fun j hj=>?_;refine zK0 ?_;refine q9 rfl (fun hd=>?_) (fun hd=>?_)
   ·have hd:(j:Int)-2<S.length:=of_decide_eq_true hd;refine zK0 ?_;refine q2l [0,1,3] rfl rfl rfl rfl rfl rfl trivial fun M7 up7 bl7 hP=>JK.start (v9 hM ?_);refine zK0 ?_;refine k7 (q0f rfl rfl rfl rfl (JK.start (v9 hN ?_)));refine zK0 ?_;have hQ:(0:Int)≤(i:Int)-2+2∧(i:Int)-2+2<12∧0≤(j:Int)-2+2∧(j:Int)-2+2<12:=by omega
    refine q9 rfl (fun he=>?_) (fun he=>?_)
    ·have he:(i:Int)-2=(j:Int)-2:=eq_of_beq he;rw[z5o (f:=f) (s:=s) (lo:=lo) (hi:=hi) (n:=n) (i:=i) (j:=j) (by omega) (by unfold kdI;rw[if_pos he])];refine zK0 ?_;refine k7 (bodyQ.of rfl rfl rfl rfl rfl rfl ?_);show JK _ _ _ ⟨[(16,vB true),(0,.lf (.yld 12)),(1,.lf (.optr 11 [])),(3,vI ((j:Int)-2))],H2 .ready a1 b1 a2 b2 S D (rgS lo hi n) i (kL (kdA f s lo hi n i (j+1))),15⟩;refine zK0 ?_;refine q9 rfl (fun h=>absurd h (by decide)) (fun _=>?_);refine zK0 ?_;exact⟨j+1,JW.low ⟨rfl,rfl,by show some (vI ((j:Int)-2+1))=some (vI (((j+1:Nat):Int)-2));rw[show(j:Int)-2+1=((j+1:Nat):Int)-2 by omega],trivial⟩ (subH.refl _) ⟨ltk rfl,ltk rfl,trivial,trivial⟩ H2_bd,by omega,by omega⟩
    ·have he:(i:Int)-2≠(j:Int)-2:=fun e=>by have he:(((i:Int)-2)==((j:Int)-2))=false:=he;rw[e] at he;simp at he
     have c1:=fn190 h (g:=191) (K:=kL (kdA f s lo hi n i j)) (fun k hk=>fn191 hk) ⟨l1,by omega⟩ (p:=(i:Int)-2) (q:=(j:Int)-2) (by omega) (by omega);have c2:=fn190 h (g:=192) (K:=kL (kdA f s lo hi n i j)) (fun k hk=>fn192 hk) ⟨by omega,l3⟩ (p:=(i:Int)-2) (q:=(j:Int)-2) (by omega) (by omega);simp only[pTa,vTa,cTa,hS,hD] at c1 c2;refine zK0 ?_;refine z6t c1 rfl rfl rfl rfl rfl rfl rfl ⟨trivial,trivial,trivial,trivial⟩ ?_;refine zK0 ?_;refine q9 rfl (fun ht=>?_) (fun ht=>?_)
     ·have ht:tchB f s lo ((i:Int)-2) ((j:Int)-2)=true:=ht;have ha:=j0p (f:=f) (s:=s) (lo:=lo) (hi:=hi) (v:=2) (n:=n) (i:=i) (j:=j) (by omega) (by omega) (by unfold kdI;rw[if_neg he,if_pos ht]) (d:=(Ty.arr 12 (.int .i64)).dflt) (p:=Int.toNat ((i:Int)-2+2)) (q:=Int.toNat ((j:Int)-2+2)) (by omega) (by omega);refine zK2 ?_;refine q01 xk (Tryz.f140.body.getD .skip) rfl 10 rfl ?_
      (refine q7 3 xk rfl rfl (q7 4 xk rfl rfl (z6 0 xk rfl rfl (z6 1 xk rfl rfl (z6 2 xk rfl rfl (z6 5 xk rfl rfl (z6 6 xk rfl rfl (z6 7 xk rfl rfl (z6 8 xk rfl rfl (zU 9 xk rfl rfl ?_)))))))));refine zK3 ?_;refine q8 ?_;refine v7 xk ?_ ?_;exact zS;((refine zK0 ?_;refine k7 (bodyQ.of rfl rfl rfl rfl rfl rfl ?_);show JK _ _ _ ⟨[(16,vB true),(0,.lf (.yld 12)),(1,.lf (.optr 11 [])),(3,vI ((j:Int)-2))],H2 .ready a1 b1 a2 b2 S D (rgS lo hi n) i (List.set (kL (kdA f s lo hi n i j)) (Int.toNat ((i:Int)-2+2)) (List.set (List.getD (kL (kdA f s lo hi n i j)) (Int.toNat ((i:Int)-2+2)) (Ty.arr 12 (.int .i64)).dflt) (Int.toNat ((j:Int)-2+2)) 2)),15⟩;rw[ha];refine zK0 ?_;refine q9 rfl (fun h=>absurd h (by decide)) (fun _=>?_);refine zK0 ?_;exact⟨j+1,JW.low ⟨rfl,rfl,by show some (vI ((j:Int)-2+1))=some (vI (((j+1:Nat):Int)-2));rw[show(j:Int)-2+1=((j+1:Nat):Int)-2 by omega],trivial⟩ (subH.refl _) ⟨ltk rfl,ltk rfl,trivial,trivial⟩ H2_bd,by omega,by omega⟩)))
     ·have ht:tchB f s lo ((i:Int)-2) ((j:Int)-2)=false:=ht;refine zK0 ?_;refine z6t c2 rfl rfl rfl rfl rfl rfl rfl ⟨trivial,trivial,trivial,trivial⟩ ?_;refine zK0 ?_;refine q9 rfl (fun hu=>?_) (fun hu=>?_)
      ·have hu:tchB f s hi ((i:Int)-2) ((j:Int)-2)=true:=hu;have ha:=j0p (f:=f) (s:=s) (lo:=lo) (hi:=hi) (v:=1) (n:=n) (i:=i) (j:=j) (by omega) (by omega) (by unfold kdI;rw[if_neg he,if_neg (by rw[ht];decide),if_pos hu]) (d:=(Ty.arr 12 (.int .i64)).dflt) (p:=Int.toNat ((i:Int)-2+2)) (q:=Int.toNat ((j:Int)-2+2)) (by omega) (by omega);refine zK2 ?_;refine q01 xk (Tryz.f140.body.getD .skip) rfl 10 rfl ?_
       (refine q7 3 xk rfl rfl (q7 4 xk rfl rfl (z6 0 xk rfl rfl (z6 1 xk rfl rfl (z6 2 xk rfl rfl (z6 5 xk rfl rfl (z6 6 xk rfl rfl (z6 7 xk rfl rfl (z6 8 xk rfl rfl (zU 9 xk rfl rfl ?_)))))))));refine zK3 ?_;refine q8 ?_;refine v7 xk ?_ ?_;exact zS;((refine zK0 ?_;refine k7 (bodyQ.of rfl rfl rfl rfl rfl rfl ?_);show JK _ _ _ ⟨[(16,vB true),(0,.lf (.yld 12)),(1,.lf (.optr 11 [])),(3,vI ((j:Int)-2))],H2 .ready a1 b1 a2 b2 S D (rgS lo hi n) i (List.set (kL (kdA f s lo hi n i j)) (Int.toNat ((i:Int)-2+2)) (List.set (List.getD (kL (kdA f s lo hi n i j)) (Int.toNat ((i:Int)-2+2)) (Ty.arr 12 (.int .i64)).dflt) (Int.toNat ((j:Int)-2+2)) 1)),15⟩;rw[ha];refine zK0 ?_;refine q9 rfl (fun h=>absurd h (by decide)) (fun _=>?_);refine zK0 ?_;exact⟨j+1,JW.low ⟨rfl,rfl,by show some (vI ((j:Int)-2+1))=some (vI (((j+1:Nat):Int)-2));rw[show(j:Int)-2+1=((j+1:Nat):Int)-2 by omega],trivial⟩ (subH.refl _) ⟨ltk rfl,ltk rfl,trivial,trivial⟩ H2_bd,by omega,by omega⟩)))
      ·have hu:tchB f s hi ((i:Int)-2) ((j:Int)-2)=false:=hu;rw[z5o (f:=f) (s:=s) (lo:=lo) (hi:=hi) (n:=n) (i:=i) (j:=j) (by omega) (by unfold kdI;rw[if_neg he,if_neg (by rw[ht];decide),if_neg (by rw[hu];decide)])];refine zK0 ?_;refine k7 (bodyQ.of rfl rfl rfl rfl rfl rfl ?_);show JK _ _ _ ⟨[(16,vB true),(0,.lf (.yld 12)),(1,.lf (.optr 11 [])),(3,vI ((j:Int)-2))],H2 .ready a1 b1 a2 b2 S D (rgS lo hi n) i (kL (kdA f s lo hi n i (j+1))),15⟩;refine zK0 ?_;refine q9 rfl (fun h=>absurd h (by decide)) (fun _=>?_);refine zK0 ?_;exact⟨j+1,JW.low ⟨rfl,rfl,by show some (vI ((j:Int)-2+1))=some (vI (((j+1:Nat):Int)-2));rw[show(j:Int)-2+1=((j+1:Nat):Int)-2 by omega],trivial⟩ (subH.refl _) ⟨ltk rfl,ltk rfl,trivial,trivial⟩ H2_bd,by omega,by omega⟩
   ·have hd:¬ (j:Int)-2<S.length:=of_decide_eq_false hd;obtain rfl:j=n+2:=by omega
    refine zK0 ?_;refine k7 (rngQ.of (.inr rfl) rfl rfl rfl rfl rfl rfl rfl (q18 ?_));refine zK0 ?_;refine k7 (bodyQ.of rfl rfl rfl rfl rfl rfl ?_);rw[kdA_row];show JK _ _ _ ⟨[(16,vB true),(0,.lf (.yld 6)),(1,.lf (.optr 5 [])),(3,vI ((i:Int)-2))],(11,PtC)::(9,.cell (.int .i64) (vI ((i:Int)-2)))::H1 a1 b1 S D (rgS lo hi n) (kL (kdA f s lo hi n (i+1) 0)),14⟩;refine zK0 ?_;refine q9 rfl (fun h=>absurd h (by decide)) (fun _=>?_);refine zK0 ?_;exact⟨i+1,JW.low ⟨rfl,rfl,by show some (vI ((i:Int)-2+1))=some (vI (((i+1:Nat):Int)-2));rw[show(i:Int)-2+1=((i+1:Nat):Int)-2 by omega],trivial⟩ (subH.cons (subH.cons (subH.refl _) H1_bd (yyd rfl)) H1_bd (yyd rfl)) ⟨ltk rfl,ltk rfl,trivial,trivial⟩ H1_bd,by omega,by omega⟩
  ·have hc:¬ (i:Int)-2<S.length:=of_decide_eq_false hc;obtain rfl:i=n+2:=by omega
   refine zK0 ?_;refine k7 (rngQ.of (.inr rfl) rfl rfl rfl rfl rfl rfl rfl (q18 ?_));show JK _ _ _ ⟨_,[(5,PtC),(3,PtC),(2,TbC S D (rgS lo hi n) (kL (kdA f s lo hi n (n+2) 0)))],8⟩
   (iterate 4 (first|refine zs rfl ?_|refine JK.fin ?_))
   refine j28 (H':=[]) (L':=[]) (nx':=0) 2 93 rfl rfl trivial (fun l o h=>by cases h) rfl trivial trivial ?_;refine zK0 ?_;refine zR rfl trivial ?_;rw[← hS,← hD];rfl
end Go.Proofs.YtjecebccchhmhaaGreatDoor.Dp
namespace Go.Proofs.YtjecebccchhmhaaGreatDoor.Dp
open Go Go.RowKit Ox Ox.Gl
attribute [local irreducible] JC JL JK JW
variable {f s lo hi:Int}{n:Nat}
abbrev pTb(f s lo hi:Int)(n:Nat):AV:=pTa f s lo hi n (kdT f s lo hi n)
def kdT_at(h6:n≤6)(hp:-2≤p∧p<n)(hq:-2≤q∧q<n):List.getD (List.getD (kdT f s lo hi n) (Int.toNat (p+2)) d) (Int.toNat (q+2)) e=kdI f s lo hi p q:=by unfold kdT;rw[kL_at (by omega) (by omega)];unfold kdA;rw[if_pos (by omega),show((Int.toNat (p+2):Nat):Int)-2=p by omega,show((Int.toNat (q+2):Nat):Int)-2=q by omega]
def fn68(h:okB f s lo hi n):Ox.Fn Tryz.prog 68 (.acons (vBa (spS f s n) (drS lo hi n)) .anil) (·=.tup (.acons (pTb f s lo hi n) (.acons (vI 0) .anil))):=by
 refine zI Tryz.func68 rfl Tryz.call68 rfl fun E M0 up=>?_;have c1:=fn139 h;have c2:=fn140 h
 (repeat (first|refine zs rfl ?_|refine zc rfl (c1) rfl rfl ?_))
 refine q9 rfl (fun h=>absurd h (by decide)) (fun _=>?_)
 (repeat (first|refine zs rfl ?_|refine n4 ?_|refine ze rfl (c2) rfl ?_))
 refine zR rfl trivial ?_;rfl
def fn69(hp:-2≤p∧p<n):Ox.Fn Tryz.prog 69 (.acons (pTb f s lo hi n) (.acons (vI p) .anil)) (·=vB true):=by refine zI Tryz.func69 rfl Tryz.call69 rfl fun E M0 up=>?_;refine zK0 ?_;refine zR rfl trivial ?_;refine congrArg vB ?_;show(bif decide (p ≥ -2) then decide (p<((spS f s n).length:Int)) else false)=true;rw[q09,decide_eq_true (by omega),decide_eq_true (by omega)];rfl
def fn40(h:okB f s lo hi n)(hp:-2≤p∧p<n)(hq:-2≤q∧q<n)(ha:p≠q):Ox.Fn Tryz.prog 40 (.acons (vBa (spS f s n) (drS lo hi n)) (.acons (vI p) (.acons (vI q) .anil))) (·=.tup (.acons (pTb f s lo hi n) (.acons (vI 0) .anil))):=by
 refine zI Tryz.func40 rfl Tryz.call40 rfl fun E M0 up=>?_;have c1:=fn68 h;have c2:=fn69 (f:=f) (s:=s) (lo:=lo) (hi:=hi) hp;have c3:=fn69 (f:=f) (s:=s) (lo:=lo) (hi:=hi) hq;have hb:(p==q)=false:=by simpa using ha
 refine zK8 ?_;refine q9 rfl (fun h=>absurd h (by decide)) (fun _=>?_);obtain⟨u,hu⟩:∃ u,u=true:=⟨true,rfl⟩;rw[← hu] at c2 c3
 (repeat (first|refine zs rfl ?_|refine zg rfl rfl rfl ?_|refine zc rfl (c2) rfl rfl ?_|refine zk rfl rfl (fun _=>c3) rfl rfl ?_))
 refine q9 rfl (fun hc=>?_) (fun _=>?_)
 ·have hc:(bif bif !u then true else !u then true else p==q)=true:=hc;rw[hu,hb] at hc;cases hc
 refine zK0 ?_;refine zR rfl trivial ?_;rfl
def fn41(h:okB f s lo hi n)(hp:-2≤p∧p<n)(hq:-2≤q∧q<n):Ox.Fn Tryz.prog 41 (.acons (pTb f s lo hi n) (.acons (vI p) (.acons (vI q) .anil))) (·=vI (kdI f s lo hi p q)):=by
 refine zI Tryz.func41 rfl Tryz.call41 rfl fun E M0 up=>?_;have h6:=h.n6;have hk:=kdT_at (f:=f) (s:=s) (lo:=lo) (hi:=hi) h6 hp hq (d:=(Ty.arr 12 (.int .i64)).dflt) (e:=0);have hb:(0:Int)≤p+2∧p+2<12∧0≤q+2∧q+2<12:=by omega
 refine zK0 ?_;refine zR rfl trivial ?_;exact congrArg (AV.val (.int .i64)) hk
def fn14(h:okB f s lo hi n)(hp:-2≤p∧p<n)(hq:-2≤q∧q<n)(ha:p≠q):Ox.Fn Tryz.prog 14 (.acons (vBa (spS f s n) (drS lo hi n)) (.acons (vI p) (.acons (vI q) .anil))) (·=.tup (.acons (vI (kdI f s lo hi p q)) (.acons (vI 0) .anil))):=by
 refine zI Tryz.func14 rfl Tryz.call14 rfl fun E M0 up=>?_;have c1:=fn40 h hp hq ha;have c2:=fn41 h hp hq;refine zK8 ?_;refine q9 rfl (fun h=>absurd h (by decide)) (fun _=>?_)
 (repeat (first|refine zs rfl ?_|refine n4 ?_|refine zc rfl (c2) rfl rfl ?_))
 refine zR rfl trivial ?_;rfl
end Go.Proofs.YtjecebccchhmhaaGreatDoor.Dp
namespace Ox
open Go Go.RowKit
variable {X:Ctx}{s:S}{M:Mem}{ρ:Env}{a:Act}{w:World}{QA:Exit→S→Prop}{all l:List Oper}{r:List Fr}
variable {L L':List (Nat×AV)}{H H':List (Nat×HO)}{nx nx' d:Nat}{ty:TypeId}{ps:String}{af:Array Edge}{c1 c2:List Prop}
variable{b:Bool}
def JW.putB(h:JW X ⟨L',H',nx'⟩ ⟨L,H,nx⟩)(hd:lk L d=none):JW X ⟨(d,.val .bool b)::L',H',nx'⟩ ⟨(d,.val .bool b)::L,H,nx⟩:=fun M ρ a w h1 h2=>by
 obtain⟨ρ',k1,k2⟩:=h M ρ a w (h1.regs L) ⟨h2.size,h2.defers,fun e v he=>h2.reg e v (by show lk ((d,AV.val .bool b)::L) e=some v;rw[lk,if_neg (fun e'=>by subst e';rw[show lk L d=some v from he] at hd;cases hd)];exact he)⟩
 refine⟨ρ',k1.regs _,k2.size,k2.defers,fun e v he=>?_⟩;by_cases e':d=e
 ·subst e';have he:lk ((d,AV.val .bool b)::L') d=some v:=he;rw[lk,if_pos rfl] at he;injection he with he;subst he
  obtain⟨_,q2⟩:=h2.reg d (.val .bool b) (by show lk ((d,AV.val .bool b)::L) d=_;rw[lk,if_pos rfl]);refine⟨trivial,?_⟩;have e0:M.le M:=Mem.le_refl M;exact j5 (n:=0) e0 (fun l hl=>absurd hl (Nat.not_lt_zero _)) trivial q2
 ·have he:lk ((d,AV.val .bool b)::L') e=some v:=he;rw[lk,if_neg e'] at he;exact k2.reg e v he
def YI(X:Ctx)(lab:Nat)(az:AV)(H:List (Nat×HO))(nx:Nat)(b:Bool)(H':List (Nat×HO))(nx':Nat):Prop:=
 ∀ all QA (l:List Oper) (r:List Fr) (d:Nat) (ty:TypeId) (p:String) (af:Array Edge) (fo:Operand) (args:Array Operand) (tys:Array TypeId) (cs1 cs2:List Prop) (L:List (Nat×AV)) (Kp:List Nat),
  opd L fo=some (cs1,.lf (.yld lab))→opds L args.toList=some (cs2,az)→allP (cs1++cs2)→ltB d X.n=true→lk (del (svL L Kp) X.n) d=none→bdL 0 (svL L Kp) →
  JK X (.ops true all l::r) QA ⟨(d,.val .bool b)::del (svL L Kp) X.n,H',nx'⟩ →
  JK X (.ops true all (⟨some d,.call {callee:=.value fo,args:=args,argTypes:=tys},ty,p,af,none⟩::l)::r) QA ⟨L,H,nx⟩
def YI.intro{lab:Nat}{az:AV}{b:Bool}{ps:Array Tmp}{assign body:Code}{nO:Nat}{LO L0:List (Nat×AV)}(hl:lk H lab=some (.loop .ready none ps assign body nO LO))
  (hb:setPs ps.toList az LO=some L0) (hg:ps.toList.all (fun p=>Nat.blt p nO)=true)
  (h:∀ Lf M0 up bl,bdL 0 Lf→up X.dp X.n=.func (.yield bl) #[] #[]→JC (X.sub M0 nO (some bl) up) assign
   (asgQ X nO fun s1=>JC (X.sub M0 nO (some bl) up) body (bodyQ X fun b' L'' H'' nx''=>b'=b∧JW X ⟨del Lf X.n,H',nx'⟩ ⟨L'',H'',nx''⟩∧L''=del Lf X.n) s1)
   ⟨L0,(nx,.fr X.dp ((X.n,.lf (.yld lab))::Lf))::H,nx+1⟩):YI X lab az H nx b H' nx':=by
 intro all QA l r d ty p af fo args tys cs1 cs2 L Kp hu ha hc hd hh hj k;refine q2l Kp hu ha hl hb hg hd hc fun M0 up bl hk=>?_;refine(h (svL L Kp) M0 up bl hj hk).mono ?_;rintro e s1 ⟨he,l1,L1,lab1,ps1,as1,bd1,n1,LO1,a1,a2,a3,a4⟩;refine⟨he,l1,L1,lab1,ps1,as1,bd1,n1,LO1,a1,a2,a3,JC.mono a4 ?_⟩;rintro e2 s2 ⟨jmp,b1,l2,L2,lab2,st2,pe2,ps2,as2,bd2,n2,LO2,b2,b3,b4,b5,rfl,b6,b7⟩;refine⟨jmp,b1,l2,L2,lab2,st2,pe2,ps2,as2,bd2,n2,LO2,b2,b3,b4,b5,?_⟩;refine x7 (JW.putB b6 (by rw[b7];exact hh)) k
def j22{az:AV}{p:String}{tys:Array TypeId}(Kp:List Nat)(hY:YI X lab az H nx b H' nx')(hu:opd L fo=some (c1,.lf (.yld lab)))(ha:opds L args.toList=some (c2,az))(hc:allP (c1++c2))(hd:ltB d X.n=true)(hb:lk (del (svL L Kp) X.n) d=none)(he:bdL 0 (svL L Kp))
  (k:JK X (.ops true all l::r) QA ⟨(d,.val .bool b)::del (svL L Kp) X.n,H',nx'⟩):JK X (.ops true all (⟨some d,.call {callee:=.value fo,args:=args,argTypes:=tys},ty,p,af,none⟩::l)::r) QA ⟨L,H,nx⟩:=
 hY _ _ _ _ _ _ _ _ _ _ _ _ _ _ Kp hu ha hc hd hb he k
section
variable {c3:List Prop}
def j20{v:AV}(hu:opd L x=some (c1,v))(hv:∀ M ρ u,v.rv M ρ u→u.cells=#[u])(hc:allP c1)(hd:ltB d X.n=true)(k:JL X true all QA l ⟨(d,.pfn v)::L,H,nx⟩) :
  JL X true all QA (⟨some d,.box t x,ty,ps,af,none⟩::l) ⟨L,H,nx⟩:=by
 intro M ρ a w h1 h2;obtain⟨hw,hy⟩:=z5 (s:=⟨L,H,nx⟩) hu hc h2;have hg:=hv _ _ _ hy;have hH:d<X.n:=j9 hd;have hB:=h2.size;have hE:=h1.below.size
 let p:Value:=.pointer (some ⟨w.heap.size,0,none⟩)
 let w2:World:=w.alloc (.cells #[a.eval x] t)
 have hr:(execOp a.eval ⟨some d,.box t x,ty,ps,af,none⟩).run X.P w=.ok (.value p) w2:=by simp only[execOp,Instr.box,yye,newVar,newRow,run_newObj,yyb,yyf,hg];rfl
 let M':Mem:=fun b=>if b=w.heap.size then some (.cells #[a.eval x] t (0,0)) else M b
 have ha:∀ b o,M b=some o→M' b=some o:=fun b o hb=>by show(if b=w.heap.size then _ else _)=_;rw[if_neg (by have:=(yyi.1 (h1.mem _ _ hb)).1;omega)];exact hb
 have hM:Mem.le M M':=fun b c ty fz hb=>ha b _ hb;have hC:w2.heap[w.heap.size]?=some (.cells #[a.eval x] t (0,0)):=World.alloc_heap_new w _;have hA:Below w.heap.size w w2:=(Below.refl _ _).alloc (yyl _) _;have hF:SAT X M' ρ ⟨L,H,nx⟩ w2:=h1.ext hA hM (fun b o hb=>by
  by_cases e:b=w.heap.size
  ·subst e;have hh:(if w.heap.size=w.heap.size then some (Obj.cells #[a.eval x] t (0,0)) else M w.heap.size)=some o:=hb;rw[if_pos rfl] at hh;rw[← hh];exact hC
  ·have hh:(if b=w.heap.size then some (Obj.cells #[a.eval x] t (0,0)) else M b)=some o:=hb;rw[if_neg e] at hh;have hG:=(yyi.1 (h1.mem b o hh)).1;rw[hA.block b hG];exact h1.mem b o hh) (fun b hb=>by
  show(if b=w.heap.size then _ else _)=_;rw[if_neg (by omega)])
 have hj:REG X M' ρ ⟨(d,.pfn v)::L,H,nx⟩ (a.put (some d) p):=by
  refine⟨by simp[Act.put,hB],let ⟨Ds,e1,e2,e3,e4⟩:=h2.defers;⟨Ds,e1,e2,fun D hD=>⟨(e3 D hD).1,ha _ _ (e3 D hD).2⟩,e4⟩,fun e y he=>?_⟩;simp only[lk] at he;by_cases hk:d=e
  ·subst hk;rw[if_pos rfl] at he;injection he with he;subst he
   refine⟨hw,?_⟩;simp only[AV.rv];refine⟨w.heap.size,_,t,(0,0),?_,?_,j5 hM (Env.upTo.refl ρ nx) hw hy⟩
   ·show(a.put (some d) p).tmps.getD d Go.undef=p;simp only[Act.put,yyr];rw[yxq (by omega)];rfl
   ·show(if w.heap.size=w.heap.size then _ else _)=_;rw[if_pos rfl]
  ·rw[if_neg hk] at he;have:=h2.reg e y he;refine⟨this.1,?_⟩;have e3:((a.put (some d) p).tmps.getD e Go.undef)=a.tmps.getD e Go.undef:=by simp only[Act.put,yyr];rw[yxs hk]
   rw[e3];exact j5 hM (Env.upTo.refl ρ nx) this.1 this.2
 exact z9 (j6 rfl) (w3 rfl hr (k M' ρ _ w2 (hF.regs _) hj))
def JK.boxY(hu:opd L x=some (c1,.lf (.yld lab)))(hc:allP c1)(hd:ltB d X.n=true)(k:JK X (.ops true all l::r) QA ⟨(d,.pfn (.lf (.yld lab)))::L,H,nx⟩) :
  JK X (.ops true all (⟨some d,.box t x,ty,ps,af,none⟩::l)::r) QA ⟨L,H,nx⟩:=j20 hu (fun M ρ u h=>by
 have:=(w9.1 h).1;simp only[Leaf.at,yya] at this;rw[← this];rfl) hc hd k
def JK.boxFn{v:AV}(hu:opd L x=some (c1,v))(hv:v.fnB=true)(hc:allP c1)(hd:ltB d X.n=true)(k:JK X (.ops true all l::r) QA ⟨(d,.pfn v)::L,H,nx⟩) :
  JK X (.ops true all (⟨some d,.box t x,ty,ps,af,none⟩::l)::r) QA ⟨L,H,nx⟩:=j20 hu (fun M ρ u h=>by
 obtain⟨f,fs,ks,rfl⟩:=fnB_rv hv h;rfl) hc hd k
end
end Ox
namespace Go.Proofs.YtjecebccchhmhaaGreatDoor.Dp
open Go Go.RowKit Ox Ox.Gl
attribute [local irreducible] JC JL JK JW
variable {f s lo hi:Int}{n:Nat}
def holdB(f s lo hi:Int)(sure:Bool)(p q:Int):Bool:=decide (kdI f s lo hi p q ≥ bif sure then 2 else 1)
def fn143(h:okB f s lo hi n)(hp:-2≤p∧p<n)(hq:-2≤q∧q<n)(sure:Bool):Ox.Fn Tryz.prog 143 (.acons (pTb f s lo hi n) (.acons (vI p) (.acons (vI q) (.acons (vB sure) .anil)))) (·=vB (holdB f s lo hi sure p q)):=by
 refine zI Tryz.func143 rfl Tryz.call143 rfl fun E M0 up=>?_;have c:=fn41 h hp hq;refine zK0 ?_;refine q9 rfl (fun hc=>?_) (fun hc=>?_)
 ·obtain rfl:sure=true:=hc;refine zK5 ?_;refine zR rfl trivial ?_;rfl
 ·obtain rfl:sure=false:=hc;refine zK5 ?_;refine zR rfl trivial ?_;rfl
abbrev ppTb(f s lo hi:Int)(n:Nat):AV:=.val (.ptr (.ptr taT)) (some (some (vTa f s lo hi n (kdT f s lo hi n))))
abbrev allV(f s lo hi:Int)(n:Nat):AV:=.fn 141 .anil (.acons (ppTb f s lo hi n) .anil)
def fn70:Ox.Fn Tryz.prog 70 (.acons (pTb f s lo hi n) .anil) (·=allV f s lo hi n):=by
 refine zI Tryz.func70 rfl Tryz.call70 rfl fun E M0 up=>?_;refine zK0 ?_;refine z1a ?_
 (refine j27 [0] [1] rfl ?_)
 refine zK0 ?_;refine zR rfl trivial ?_;rfl
abbrev nearV(f s lo hi:Int)(n:Nat)(p:Int)(sure:Bool):AV:=.fn 142 .anil (.acons (ppTb f s lo hi n) (.acons (pI p) (.acons (.val (.ptr .bool) (some sure)) .anil)))
def fn71(p:Int)(sure:Bool):Ox.Fn Tryz.prog 71 (.acons (pTb f s lo hi n) (.acons (vI p) (.acons (vB sure) .anil))) (·=nearV f s lo hi n p sure):=by
 refine zI Tryz.func71 rfl Tryz.call71 rfl fun E M0 up=>?_;refine zK0 ?_;refine z1a ?_
 (refine j27 [0,1,2] [3,4,5] rfl ?_)
 refine zK0 ?_;refine zR rfl trivial ?_;rfl
def nearT(f s lo hi:Int)(sure:Bool)(p:Int)(i:Nat):List Int:=((List.range i).map fun k:Nat=>(k:Int)-2).filter (holdB f s lo hi sure p)
abbrev nearL(f s lo hi:Int)(n:Nat)(sure:Bool)(p:Int):List Int:=nearT f s lo hi sure p (n+2)
def q6q(f s lo hi:Int)(sure:Bool)(p:Int)(i:Nat):nearT f s lo hi sure p (i+1)=if holdB f s lo hi sure p ((i:Int)-2)=true then nearT f s lo hi sure p i++[(i:Int)-2] else nearT f s lo hi sure p i:=by
 unfold nearT;rw[List.range_succ,yxz,List.filter_append];by_cases h:holdB f s lo hi sure p ((i:Int)-2)=true
 ·simp[h]
 ·simp[h]
def z9x(f s lo hi:Int)(sure:Bool)(p:Int)(h:i≤m):∃ t,nearT f s lo hi sure p m=nearT f s lo hi sure p i++t:=by
 induction m with
 |zero=>exact⟨[],by rw[show i=0 by omega,yxj]⟩
 |succ m ih=>
  by_cases e:i=m+1
  ·exact⟨[],by rw[e,yxj]⟩
  ·obtain⟨t,ht⟩:=ih (by omega);rw[q6q,ht];split
   ·exact⟨t++[(m:Int)-2],by rw[yxl]⟩
   ·exact⟨t,rfl⟩
def z68{sure:Bool}(ha:i<n+2)(hh:holdB f s lo hi sure p ((i:Int)-2)=true):∃ t,nearL f s lo hi n sure p=nearT f s lo hi sure p i++((i:Int)-2)::t:=by obtain⟨t,ht⟩:=z9x f s lo hi sure p (i:=i+1) (m:=n+2) (by omega);rw[q6q f s lo hi sure p i,if_pos hh] at ht;exact⟨t,ht.trans (by simp)⟩
def q10{sure:Bool}:q∈nearL f s lo hi n sure p↔(-2≤q∧q<n)∧holdB f s lo hi sure p q=true:=by
 unfold nearL nearT;rw[yx0,yy7];constructor
 ·rintro⟨⟨k,hk,rfl⟩,h⟩;rw[yy3] at hk;exact⟨by omega,h⟩
 ·rintro⟨h1,h2⟩;exact⟨⟨(q+2).toNat,by rw[yy3];omega,by omega⟩,h2⟩
def near_nil{sure:Bool}(h6:n≤6)(hp:-2≤p∧p<n)(h:List.getD (kdT f s lo hi n) (Int.toNat (p+2)) (List.replicate 12 0)=List.replicate 12 0):nearL f s lo hi n sure p=[]:=by
 refine List.filter_eq_nil_iff.2 fun q hq=>?_;obtain⟨k,hk,rfl⟩:=yy7.1 hq;rw[yy3] at hk;have h1:=kdT_at (f:=f) (s:=s) (lo:=lo) (hi:=hi) h6 hp (q:=(k:Int)-2) (by omega) (d:=List.replicate 12 0) (e:=0);rw[h] at h1;have h2:kdI f s lo hi p ((k:Int)-2)=0:=by rw[← h1,yyq,List.getElem?_replicate];split<;>rfl
 unfold holdB;rw[h2];cases sure<;>decide
end Go.Proofs.YtjecebccchhmhaaGreatDoor.Dp
namespace Go.Proofs.YtjecebccchhmhaaGreatDoor.Dp.N2
open Go Go.RowKit Ox Ox.Gl
attribute [local irreducible] JC JL JK JW
def fun84:funB Tryz.prog 84=true:=by decide +kernel
def eq140:EqT Tryz.prog (.arr 12 (.int .i64)) 140:=.of (by decide +kernel)
variable {f s lo hi:Int}{n:Nat}
abbrev LN(f s lo hi:Int)(n:Nat)(p:Int)(sure:Bool)(lab:Nat):List (Nat×AV):=[(1,ppTb f s lo hi n),(2,pI p),(3,.val (.ptr .bool) (some sure)),(4,.pfn (.lf (.yld lab)))]
abbrev FR(st:LoopState)(a b:Code)(f s lo hi:Int)(n:Nat)(p:Int)(sure:Bool)(lab:Nat)(q:Int):List (Nat×HO):=[(202,.fr 4 [(18,.lf (.yld 200)),(0,.lf (.yld 200)),(1,ppTb f s lo hi n),(3,vI q)]),(201,.fr 3 [(29,.lf (.yld 200)),(1,ppTb f s lo hi n),(2,pI p),(3,.val (.ptr .bool) (some sure)),(4,.pfn (.lf (.yld lab)))]),(200,.loop st none #[17] a b 29 (LN f s lo hi n p sure lab))]
abbrev FQ(a b:Code)(f s lo hi:Int)(n:Nat)(p:Int)(sure:Bool)(lab:Nat):List (Nat×HO):=[(201,.fr 3 [(29,.lf (.yld 200)),(1,ppTb f s lo hi n),(2,pI p),(3,.val (.ptr .bool) (some sure)),(4,.pfn (.lf (.yld lab)))]),(200,.loop .ready none #[17] a b 29 (LN f s lo hi n p sure lab))]
section
variable {st:LoopState}{jmp:Option Code}{a b:Code}{p q:Int}{sure:Bool}{lab m:Nat}{K0:List (Nat×HO)}
def q7f(h:bdH 200 K0)(hm:200≤m):del K0 m=K0:=q8p fun x hx=>by have:=(g8 h x.1 x.2 hx).1;omega
def z0s(h:bdH 200 K0){o:HO}:updH (del (FR .busy a b f s lo hi n p sure lab q++K0) 202) 200 o=(201,.fr 3 [(29,.lf (.yld 200)),(1,ppTb f s lo hi n),(2,pI p),(3,.val (.ptr .bool) (some sure)),(4,.pfn (.lf (.yld lab)))])::(200,o)::K0:=by show(201,_)::(200,_)::del K0 202=_;rw[q7f h (by omega)]
def fr_no(h:bdH 200 K0)(hF:noFr 4 K0=true):noFr 4 (del (FR .busy a b f s lo hi n p sure lab q++K0) 202)=true:=by show noFr 4 (del K0 202)=true;rw[q7f h (by omega)];exact hF
def lt_k{a b:Nat}(h:Nat.ble (a+1) b=true):a<b:=yyd h
def bdF(hl:lab<200)(h:bdH 200 K0):bdH 202 (FQ a b f s lo hi n p sure lab++K0):=⟨lt_k rfl,y6 ⟨lt_k rfl,trivial,trivial,trivial,(by show lab<202;omega),trivial⟩,lt_k rfl,s7 ⟨trivial,trivial,trivial,(by show lab<202;omega),trivial⟩,d9 (by omega) h⟩
def z2f(h:bdH 200 K0){o:HO}{L:List (Nat×AV)}:del (del ((201,.fr 3 L)::(200,o)::K0) 201) 200=K0:=by show del (del K0 201) 200=K0;rw[q7f h (by omega),q7f h (by omega)]
end
set_option maxRecDepth 20000 in
set_option maxHeartbeats 4000000 in
def near_in(h:okB f s lo hi n)(sure:Bool)(hp:-2≤p∧p<n){M0 M1:Mem}{rd:Option Nat}{QA:Exit→S→Prop}
  (stop:Int→Bool) (K:List Int→List (Nat×HO)) (Kf:Int→List (Nat×HO)) (hd:lab<200) (hK:∀ pre,bdH 200 (K pre)) (hg:∀ q,bdH 200 (Kf q))
  (hF:∀ pre,noFr 4 (K pre)=true∧noFr 3 (K pre)=true) (hu:∀ q,noFr 4 (Kf q)=true∧noFr 3 (Kf q)=true)
  (hY:∀ (pre:List Int) (q:Int) (post:List Int),nearL f s lo hi n sure p=pre++q::post→(-2≤q∧q<n)→∀ M3 rd3 up3 a b,YI ⟨Tryz.prog,tys,ets,mts,E,M3,29,rd3,up3,5⟩ lab (.acons (vI q) .anil) (FR .busy a b f s lo hi n p sure lab q++K pre) 203 (!stop q) (FR .busy a b f s lo hi n p sure lab q++bif stop q then Kf q else K (pre++[q])) 203)
  (k:(∀ q,q∈nearL f s lo hi n sure p→stop q=false)→∀ e L m,200≤m→(e=.ret∨e=.normal)→QA e ⟨L,K (nearL f s lo hi n sure p),m⟩)
  (kf:∀ q,q∈nearL f s lo hi n sure p→stop q=true→∀ L m,200≤m→QA .ret ⟨L,Kf q,m⟩) :
  JK (Ctx.sub ⟨Tryz.prog,tys,ets,mts,E,M0,nn,rd,up,2⟩ M1 Tryz.f142.ntmps none up1) [.code (Tryz.f142.body.getD .skip)] QA
   ⟨[(0,.lf (.yld lab)),(1,ppTb f s lo hi n),(2,pI p),(3,.val (.ptr .bool) (some sure))],K [],200⟩:=by
 refine cdf (fn:=Tryz.f142) rfl ?_;have h6:=h.n6;have he:=near_nil (f:=f) (s:=s) (lo:=lo) (hi:=hi) (sure:=sure) h6 hp;have hv:(0:Int)≤p+2∧p+2<12:=by omega
 (iterate 2 refine zs rfl ?_)
 refine JK.boxY rfl trivial rfl ?_
 (repeat (first|refine zs rfl ?_|refine zd ?_|refine zeq eq140 rfl rfl rfl ?_))
 refine q9 rfl (fun hc=>?_) (fun hc=>?_)
 ·have e:=he (y7.1 hc);rw[e] at k;refine zK0 ?_;exact k (fun q hq=>absurd hq yy9) _ _ _ (yyl _) (.inl rfl)
 clear hc he
 (repeat (first|refine zs rfl ?_|refine ze rfl (fn70 (f:=f) (s:=s) (lo:=lo) (hi:=hi) (n:=n)) rfl ?_))
 refine q2m [1,2,3,4] rfl rfl Tryz.func141 rfl Tryz.call141 (yyd rfl) trivial fun M3 up3 a1 b1 hw hy=>?_;refine zK0 ?_;refine JK.loop (fun i:Nat=>⟨[(0,.lf (.yld 200)),(1,ppTb f s lo hi n),(3,vI ((i:Int)-2))],FQ a1 b1 f s lo hi n p sure lab++K (nearT f s lo hi sure p i),202⟩) (fun i=>i≤n+2∧∀ q,q∈nearT f s lo hi sure p i→stop q=false) (fun i=>n+2-i) 0 ⟨yyw _,fun q hq=>absurd hq yy9⟩ (JW.same ⟨rfl,rfl,rfl,trivial⟩) fun i ⟨hA,hst⟩=>?_;refine zK0 ?_;refine q9 rfl (fun hc=>?_) (fun hc=>?_)
 ·have hc:(i:Int)-2<(spS f s n).length:=of_decide_eq_true hc;rw[q09] at hc;refine zK0 ?_;refine q2l [0,1,3] rfl rfl rfl rfl rfl rfl trivial fun M4 up4 bl hB=>JK.start (v9 hw ?_);refine zK0 ?_;refine k7 (q0f rfl rfl rfl rfl (JK.start (v9 hy ?_)));have c143:=fn143 h hp (q:=(i:Int)-2) (by omega) sure;have ha:=q6q f s lo hi sure p i;have hj:=fun hh=>z68 (n:=n) (f:=f) (s:=s) (lo:=lo) (hi:=hi) (sure:=sure) (p:=p) (i:=i) (by omega) hh;cases hh:holdB f s lo hi sure p ((i:Int)-2) with
  |false=>
   rw[hh] at c143 ha;rw[if_neg (by decide)] at ha
   (repeat (first|refine zs rfl ?_|refine zc rfl c143 rfl rfl ?_|refine zfl rfl rfl rfl ?_|refine z6o rfl rfl rfl rfl trivial trivial ?_))
   refine q9 rfl (fun h=>absurd h (by decide)) (fun _=>?_);refine zK0 ?_;refine k7 (bodyQ.of rfl rfl rfl rfl rfl (fr_no (hK _) (hF _).1) ?_);show JK _ _ _ ⟨[(16,vB true),(0,.lf (.yld 200)),(1,ppTb f s lo hi n),(3,vI ((i:Int)-2))],updH (del (FR .busy a1 b1 f s lo hi n p sure lab ((i:Int)-2)++K (nearT f s lo hi sure p i)) 202) 200 (.loop .ready none #[17] a1 b1 29 (LN f s lo hi n p sure lab)),203⟩;rw[z0s (hK _)];refine zK0 ?_;refine q9 rfl (fun h=>absurd h (by decide)) (fun _=>?_);refine zK0 ?_;refine⟨i+1,?_,⟨by omega,?_⟩,by omega⟩
   ·dsimp only;rw[ha];exact JW.low ⟨rfl,rfl,by show some (vI ((i:Int)-2+1))=some (vI (((i+1:Nat):Int)-2));rw[show(i:Int)-2+1=((i+1:Nat):Int)-2 by omega],trivial⟩ (subH.refl _) ⟨lt_k rfl,trivial,trivial,trivial⟩ (bdF hd (hK _))
   ·rw[ha];exact hst
  |true=>
   rw[hh] at c143 ha;rw[if_pos rfl] at ha;obtain⟨post,hb⟩:=hj hh;have hk:((i:Int)-2)∈nearL f s lo hi n sure p:=by rw[hb];exact List.mem_append_right _ yyh
   (repeat (first|refine zs rfl ?_|refine zt rfl rfl ?_|refine zc rfl c143 rfl rfl ?_|refine zdf fun84 rfl rfl ?_))
   refine j22 [23] (hY _ _ _ hb (by omega) _ _ _ a1 b1) rfl rfl trivial rfl rfl ⟨trivial,trivial⟩ ?_;cases hs:stop ((i:Int)-2) with
   |false=>
    (repeat (first|refine zs rfl ?_|refine zt rfl rfl ?_|refine JK.fin ?_))
    refine q9 rfl (fun h=>absurd h (by decide)) (fun _=>?_);refine zK0 ?_;refine k7 (bodyQ.of rfl rfl rfl rfl rfl (fr_no (hK _) (hF _).1) ?_);show JK _ _ _ ⟨[(16,vB true),(0,.lf (.yld 200)),(1,ppTb f s lo hi n),(3,vI ((i:Int)-2))],updH (del (FR .busy a1 b1 f s lo hi n p sure lab ((i:Int)-2)++K (nearT f s lo hi sure p i++[(i:Int)-2])) 202) 200 (.loop .ready none #[17] a1 b1 29 (LN f s lo hi n p sure lab)),203⟩;rw[z0s (hK _)];refine zK0 ?_;refine q9 rfl (fun h=>absurd h (by decide)) (fun _=>?_);refine zK0 ?_;refine⟨i+1,?_,⟨by omega,?_⟩,by omega⟩
    ·dsimp only;rw[ha];exact JW.low ⟨rfl,rfl,by show some (vI ((i:Int)-2+1))=some (vI (((i+1:Nat):Int)-2));rw[show(i:Int)-2+1=((i+1:Nat):Int)-2 by omega],trivial⟩ (subH.refl _) ⟨lt_k rfl,trivial,trivial,trivial⟩ (bdF hd (hK _))
    ·rw[ha];intro q hq;rcases yxd.1 hq with hq|hq
     ·exact hst q hq
     ·rw[yyp.1 hq];exact hs
   |true=>
    (repeat (first|refine zs rfl ?_|refine zt rfl rfl ?_|refine JK.fin ?_))
    refine q9 rfl (fun _=>?_) (fun h=>absurd h (by decide));refine zK0 ?_;refine bodyQ.of rfl rfl rfl rfl rfl (fr_no (hg _) (hu _).1) ?_;show JK _ _ _ ⟨[(16,vB false),(0,.lf (.yld 200)),(1,ppTb f s lo hi n),(3,vI ((i:Int)-2))],updH (del (FR .busy a1 b1 f s lo hi n p sure lab ((i:Int)-2)++Kf ((i:Int)-2)) 202) 200 (.loop .done (some .ret) #[17] a1 b1 29 (LN f s lo hi n p sure lab)),203⟩;rw[z0s (hg _)];refine zK0 ?_;refine q9 rfl (fun _=>?_) (fun h=>absurd h (by decide));refine zK0 ?_;refine rngQ.of (.inl rfl) rfl rfl rfl rfl rfl rfl (by rw[z2f (hg _)];exact(hu _).2) (j1i ?_);rw[z2f (hg _)];exact kf _ hk hs _ _ (by omega)
 ·have hc:¬ (i:Int)-2<(spS f s n).length:=of_decide_eq_false hc;rw[q09] at hc;obtain rfl:i=n+2:=by omega
  refine zK0 ?_;refine k7 (rngQ.of (.inr rfl) rfl rfl rfl rfl rfl rfl (by show noFr 3 (del (del (FQ a1 b1 f s lo hi n p sure lab++K _) 201) 200)=true;rw[show FQ a1 b1 f s lo hi n p sure lab++K (nearL f s lo hi n sure p)=(201,_)::(200,_)::K (nearL f s lo hi n sure p) from rfl,z2f (hK _)];exact(hF _).2) (q18 ?_));show JK _ _ _ ⟨_,del (del ((201,.fr 3 [(29,.lf (.yld 200)),(1,ppTb f s lo hi n),(2,pI p),(3,.val (.ptr .bool) (some sure)),(4,.pfn (.lf (.yld lab)))])::(200,.loop .ready none #[17] a1 b1 29 (LN f s lo hi n p sure lab))::K (nearL f s lo hi n sure p)) 201) 200,202⟩;rw[z2f (hK _)];refine zK0 ?_;exact k7 (k hst _ _ _ (by omega) (.inr rfl))
end Go.Proofs.YtjecebccchhmhaaGreatDoor.Dp.N2
namespace Ox.Two
def keyI(s:Int):Int:=if s<0 then -2*s-1 else 2*s-2
def key(s:Int):Nat:=(keyI s).toNat
variable{a s b:Int}
def key_lt(ha:isSay n a):key a<2*n:=by unfold key keyI isSay at *;split<;>omega
def sayL(n:Nat):List Int:=(List.range n).flatMap fun k:Nat=>[(k:Int)+1,-1-(k:Int)]
def z0l:s∈sayL n↔isSay n s:=by
 unfold sayL isSay;rw[List.mem_flatMap];constructor
 ·rintro⟨k,hk,h⟩;have:=yy3.1 hk;simp at h;omega
 ·intro h;by_cases hn:s<0
  ·exact⟨(-1-s).toNat,yy3.2 (by omega),by simp;omega⟩
  ·exact⟨(s-1).toNat,yy3.2 (by omega),by simp;omega⟩
abbrev St:=Int×Int×Int×Unit
def stepsF(s:Int):Nat→Ev→List St
 |_,[]=>[]
 |i,x::r=>(if x.1=-s then [(s,x.2.1,(i:Int),())] else [])++((if x.2.1=-s then [(s,x.1,(i:Int),())] else [])++stepsF s (i+1) r)
def q6s{s:Int}{z:St}:∀ {ev:Ev} {i:Nat},z∈stepsF s i ev↔∃ k x,ev[k]?=some x∧z=(s,z.2.1,((i+k:Nat):Int),())∧((x.1=-s∧z.2.1=x.2.1)∨(x.2.1=-s∧z.2.1=x.1))
 |[],i=>by simp[stepsF]
 |x::r,i=>by
  have ih:=q6s (s:=s) (z:=z) (ev:=r) (i:=i+1);rw[stepsF,yxd,yxd,ih];constructor
  ·rintro(h|h|⟨k,y,h1,h2,h3⟩)
   ·by_cases e:x.1=-s
    ·rw[if_pos e] at h;have:=yyp.1 h;refine⟨0,x,rfl,by rw[this];rfl,.inl ⟨e,by rw[this]⟩⟩
    ·rw[if_neg e] at h;cases h
   ·by_cases e:x.2.1=-s
    ·rw[if_pos e] at h;have:=yyp.1 h;refine⟨0,x,rfl,by rw[this];rfl,.inr ⟨e,by rw[this]⟩⟩
    ·rw[if_neg e] at h;cases h
   ·exact⟨k+1,y,by simpa using h1,by rw[h2,show i+1+k=i+(k+1) by omega],h3⟩
  ·rintro⟨k,y,h1,h2,h3⟩;cases k with
   |zero=>
    have:x=y:=by simpa using h1
    subst this;rw[Nat.add_zero] at h2;rcases h3 with⟨a,b⟩|⟨a,b⟩
    ·left;rw[if_pos a];rw[h2,b];exact yyp.2 rfl
    ·right;left;rw[if_pos a];rw[h2,b];exact yyp.2 rfl
   |succ k=>exact .inr (.inr ⟨k,y,by simpa using h1,by rw[h2,show i+1+k=i+(k+1) by omega],h3⟩)
def stepsL(ev:Ev)(s:Int):List St:=stepsF s 0 ev
variable{ev:Ev}
def z3d:Step ev s b↔∃ z∈stepsL ev s,z.2.1=b:=by
 constructor
 ·rintro⟨x,hx,h⟩;obtain⟨k,hk,rfl⟩:=yxx.1 hx;refine⟨(s,b,((0+k:Nat):Int),()),q6s.2 ⟨k,ev[k],yyt hk,rfl,?_⟩,rfl⟩;exact h.imp (fun h=>⟨h.1,h.2.symm⟩) fun h=>⟨h.1,h.2.symm⟩
 ·rintro⟨z,hz,rfl⟩;obtain⟨k,x,h1,h2,h3⟩:=q6s.1 hz;refine⟨x,List.mem_of_getElem? h1,?_⟩;exact h3.imp (fun h=>⟨h.1,h.2.symm⟩) fun h=>⟨h.1,h.2.symm⟩
def bitT(t:List Int)(i c:Nat):Bool:=(t.getD i 0).toNat.testBit c
def tabOk(t:List Int):Prop:=t.length=24∧∀ x∈t,0≤x∧x<16777216
def orAt(t:List Int)(i j:Nat):List Int:=t.set i (((t.getD i 0).toNat ||| (t.getD j 0).toNat:Nat):Int)
variable{t:List Int}
def tabOk.get(h:tabOk t)(i:Nat):0≤t.getD i 0∧t.getD i 0<16777216:=by
 by_cases hi:i<t.length
 ·have:=h.2 _ (yy4 hi);rw[yyq,yyt hi];exact this
 ·rw[yyq,yxe (by omega)];simp
def tabOk.set{t:List Int}(h:tabOk t)(i:Nat){x:Int}(hx:0≤x∧x<16777216):tabOk (t.set i x):=by
 refine⟨by rw[List.length_set];exact h.1,fun y hy=>?_⟩;rcases List.mem_or_eq_of_mem_set hy with h1|rfl
 ·exact h.2 y h1
 ·exact hx
def or_lt{a b:Nat}(ha:a<16777216)(hb:b<16777216):a ||| b<16777216:=Nat.or_lt_two_pow (n:=24) ha hb
def tabOk.orAt{t:List Int}(h:tabOk t)(i j:Nat):tabOk (orAt t i j):=by have h1:=h.get i;have h2:=h.get j;have:=or_lt (a:=(t.getD i 0).toNat) (b:=(t.getD j 0).toNat) (by omega) (by omega);exact h.set i (by omega)
def z2e(hi:i<t.length)(x:Int)(k:Nat):(t.set i x).getD k 0=if k=i then x else t.getD k 0:=by
 rw[yyq,yyq,List.getElem?_set];by_cases h:k=i
 ·subst h;simp[hi]
 ·rw[if_neg (fun e=>h e.symm),if_neg h]
def z6c(h:tabOk t)(hi:i<24)(j k c:Nat):bitT (orAt t i j) k c=if k=i then(bitT t i c||bitT t j c) else bitT t k c:=by
 have hl:=h.1;unfold bitT orAt;rw[z2e (by omega)];by_cases e:k=i
 ·rw[if_pos e,if_pos e,Int.toNat_natCast,Nat.testBit_or]
 ·rw[if_neg e,if_neg e]
def leT(t t':List Int):Prop:=∀ i c,bitT t i c=true→bitT t' i c=true
def leT.refl(t:List Int):leT t t:=fun _ _ h=>h
def leT.trans{a b c:List Int}(h:leT a b)(k:leT b c):leT a c:=fun i x hx=>k i x (h i x hx)
def z5j(h:tabOk t)(hi:i<24)(j:Nat):leT t (orAt t i j):=fun k c hb=>by
 rw[z6c h hi];split
 ·rename_i e;subst e;rw[hb];rfl
 ·exact hb
def passZ(s:Int):List St→List Int→List Int
 |[],t=>t
 |z::r,t=>passZ s r (orAt t (key s) (key z.2.1))
def passS(ev:Ev):List Int→List Int→List Int
 |[],t=>t
 |s::r,t=>passS ev r (passZ s (stepsL ev s) t)
def pass(ev:Ev)(n:Nat)(t:List Int):List Int:=passS ev (sayL n) t
def q7n{s:Int}(hs:key s<24):∀ (l:List St) {t:List Int},tabOk t→tabOk (passZ s l t)∧leT t (passZ s l t)
 |[],t,h=>⟨h,leT.refl t⟩
 |z::r,t,h=>by obtain⟨a,b⟩:=q7n hs r (h.orAt (key s) (key z.2.1));exact⟨a,(z5j h hs _).trans b⟩
def z45{ev:Ev}:∀ (l:List Int) {t:List Int},(∀ s∈l,key s<24)→tabOk t→tabOk (passS ev l t)∧leT t (passS ev l t)
 |[],t,_,h=>⟨h,leT.refl t⟩
 |s::r,t,hl,h=>by obtain⟨a,b⟩:=q7n (hl s yyh) (stepsL ev s) h;obtain⟨c,d⟩:=z45 r (fun s hs=>hl s (yyj _ hs)) a;exact⟨c,b.trans d⟩
def z1u{s:Int}(hs:key s<24):∀ (l:List St) {t:List Int},tabOk t→∀ z∈l,∀ c,bitT t (key z.2.1) c=true→bitT (passZ s l t) (key s) c=true
 |y::r,t,h,z,hz,c,hb=>by
  rcases yyk.1 hz with rfl|hz
  ·refine(q7n hs r (h.orAt (key s) (key z.2.1))).2 _ _ ?_;rw[z6c h hs,if_pos rfl,hb,Bool.or_true]
  ·exact z1u hs r (h.orAt _ _) z hz c (z5j h hs _ _ _ hb)
def z1v{ev:Ev}:∀ (l:List Int) {t:List Int},(∀ s∈l,key s<24)→tabOk t→∀ s∈l,∀ b,Step ev s b→∀ c,bitT t (key b) c=true→bitT (passS ev l t) (key s) c=true
 |y::r,t,hl,h,s,hs,b,hst,c,hb=>by
  obtain⟨a1,a2⟩:=q7n (hl y yyh) (stepsL ev y) h;have hr:=fun s hs=>hl s (yyj _ hs);rcases yyk.1 hs with rfl|hs
  ·obtain⟨z,hz,rfl⟩:=z3d.1 hst;exact(z45 r hr a1).2 _ _ (z1u (hl s yyh) _ h z hz c hb)
  ·exact z1v r hr a1 s hs b hst c (a2 _ _ hb)
def sndT(n:Nat)(ev:Ev)(t:List Int):Prop:=∀ a b,isSay n a→isSay n b→bitT t (key a) (key b)=true→Reach ev a b
def initF:List Int→List Int→List Int
 |[],t=>t
 |s::r,t=>initF r (t.set (key s) ((2 ^ key s:Nat):Int))
def initT(n:Nat):List Int:=initF (sayL n) (List.replicate 24 0)
def pow_ok(h:k<24):(0:Int)≤((2 ^ k:Nat):Int)∧((2 ^ k:Nat):Int)<16777216:=by have:2 ^ k<2 ^ 24:=Nat.pow_lt_pow_right (by omega) h;generalize 2 ^ k=m at *;omega
def z19:∀ (l:List Int) {t:List Int},(∀ s∈l,key s<24)→tabOk t→∀ i c,bitT (initF l t) i c=if (∃ s∈l,key s=i) then decide (i=c) else bitT t i c
 |[],t,_,_,i,c=>by simp[initF]
 |s::r,t,hl,h,i,c=>by
  have hk:=hl s yyh;have hr:=fun s hs=>hl s (yyj _ hs);rw[initF,z19 r hr (h.set _ (pow_ok hk))];have ha:=h.1;have hb:bitT (t.set (key s) ((2 ^ key s:Nat):Int)) i c=if i=key s then decide (i=c) else bitT t i c:=by
   unfold bitT;rw[z2e (by omega)];by_cases e:i=key s
   ·rw[if_pos e,if_pos e,Int.toNat_natCast,Nat.testBit_two_pow,e]
   ·rw[if_neg e,if_neg e]
  by_cases h1:∃ s∈r,key s=i
  ·rw[if_pos h1,if_pos];obtain⟨x,hx,e⟩:=h1;exact⟨x,yyj _ hx,e⟩
  ·rw[if_neg h1,hb];by_cases e:i=key s
   ·rw[if_pos e,if_pos ⟨s,yyh,e.symm⟩]
   ·rw[if_neg e,if_neg];rintro⟨x,hx,e2⟩;rcases yyk.1 hx with rfl|hx
    ·exact e e2.symm
    ·exact h1 ⟨x,hx,e2⟩
def z6w:tabOk (List.replicate 24 0):=⟨by simp,fun x hx=>by rw[(List.mem_replicate.1 hx).2];omega⟩
def z8l(hn:n≤12):∀ s∈sayL n,key s<24:=fun s hs=>by have:=key_lt (z0l.1 hs);omega
def j0s(hn:n≤12)(ha:isSay n a)(c:Nat):bitT (initT n) (key a) c=decide (key a=c):=by rw[initT,z19 _ (z8l hn) z6w,if_pos ⟨a,z0l.2 ha,rfl⟩]
structure Way(n:Nat)(ev:Ev)(t:List Int):Prop where
 ok:tabOk t
 snd:sndT n ev t
 own:leT (initT n) t
def Way.all(hv:valid n ev)(hn:n≤12)(h:Way n ev t)(hf:Two.pass ev n t=t)(ha:isSay n a)(hb:isSay n b):bitT t (key a) (key b)=true↔Reach ev a b:=by
 refine⟨h.snd a b ha hb,?_⟩;rintro⟨k,hr⟩;have key1:∀ (k:Nat) (c:Int),Ch ev k c b→isSay n c→bitT t (key c) (key b)=true:=by
  intro k;induction k with
  |zero=>intro c hc hs;cases hc;refine h.own _ _ ?_;rw[j0s hn hs];simp
  |succ k ih=>
   intro c hc hs;obtain⟨d,h1,h2⟩:∃ d,Step ev c d∧Ch ev k d b:=by
    have gen:∀ {m:Nat} {x:Int},Ch ev (m+1) c x→∃ d,Step ev c d∧Ch ev m d x:=by
     intro m;induction m with
     |zero=>intro x hx;cases hx with|snoc h1 h2=>cases h1;exact⟨_,h2,.nil _⟩
     |succ m ihm=>
      intro x hx;cases hx with
      |snoc h1 h2=>obtain⟨d,e1,e2⟩:=ihm h1;exact⟨d,e1,e2.snoc h2⟩
    exact gen hc
   have h3:=ih d h2 (h1.say hv).2;have:=z1v (sayL n) (z8l hn) h.ok c (z0l.2 hs) d h1 (key b) h3;rwa[show passS ev (sayL n) t=t from hf] at this
 exact key1 k a hr ha
def follows(t:List Int)(a b:Int):Bool:=bitT t (key a) (key b)
def bin(row:List Int):Prop:=∀ x∈row,x=0∨x=1
def bin.get{row:List Int}(h:bin row)(hk:k<row.length):row.getD k 0=0∨row.getD k 0=1:=by rw[yyq,yyt hk];exact h _ (yy4 hk)
section
variable {n:Nat}{ev:Ev}{t:List Int}
end
def Dist(ev:Ev)(a:Int)(k:Nat)(b:Int):Prop:=Ch ev k a b∧∀ j,j<k→¬ Ch ev j a b
def Dist.eq(h:Dist ev a k b)(h':Dist ev a m b):k=m:=by
 rcases Nat.lt_trichotomy k m with e|e|e
 ·exact absurd h.1 (h'.2 k e)
 ·exact e
 ·exact absurd h'.1 (h.2 m e)
def Dist.pred(h:Dist ev a (k+1) b):∃ p,Dist ev a k p∧Step ev p b:=by
 obtain⟨h1,h2⟩:=h;cases h1 with
 |snoc h3 h4=>exact⟨_,⟨h3,fun j hj hc=>h2 (j+1) (by omega) (hc.snoc h4)⟩,h4⟩
def Dist.zero:Dist ev a 0 b↔a=b:=by
 constructor
 ·rintro⟨h,_⟩;cases h;rfl
 ·rintro rfl;exact⟨.nil _,fun j hj=>by omega⟩
def Dist.at:∀ {k:Nat},Dist ev a k b→∀ i,i≤k→∃ x,Dist ev a i x:=by
 intro k;induction k generalizing b with
 |zero=>intro h i hi;exact⟨b,by rw[show i=0 by omega];exact h⟩
 |succ k ih=>
  intro h i hi;by_cases e:i=k+1
  ·exact⟨b,by rw[e];exact h⟩
  ·obtain⟨p,hp,_⟩:=h.pred;exact ih hp i (by omega)
def nodup_le{α:Type}[DecidableEq α]:∀ {l l':List α},l.Nodup→(∀ x∈l,x∈l')→l.length≤l'.length
 |[],_,_,_=>yyw _
 |a::l,l',hn,hs=>by
  have hb:=yx4.1 hn;have ha:a∈l':=hs a yyh;have:=nodup_le (l:=l) (l':=l'.erase a) hb.2 fun x hx=>by have hd:=hs x (yyj _ hx);have he:x≠a:=fun h=>hb.1 (h▸hx);exact(List.mem_erase_of_ne he).2 hd
  have hl:=List.length_erase_of_mem ha;have hp:=List.length_pos_of_mem ha;simp only[List.length_cons];omega
def getA(l:List (Int×St))(x:Int):Option St:=(l.find? fun p=>p.1==x).map (·.2)
def st0(a:Int):St:=(a,0,0,())
end Ox.Two
namespace Go.Proofs.YtjecebccchhmhaaGreatDoor.Dp
open Go Go.RowKit Ox Ox.Gl
inductive Rch(f s lo hi:Int)(n:Nat)(sure:Bool)(p:Int):Int→Prop
 |here:Rch f s lo hi n sure p p
 |step {q r:Int}:Rch f s lo hi n sure p q→r∈nearL f s lo hi n sure q→Rch f s lo hi n sure p r
def addL(o:List Int):List Int→List Int
 |[]=>o
 |q::r=>addL (if q∈o then o else o++[q]) r
def addL_app(o a b:List Int):addL o (a++b)=addL (addL o a) b:=by
 induction a generalizing o with
 |nil=>rfl
 |cons q r ih=>exact ih _
def j2d(o a:List Int)(q:Int):addL o (a++[q])=if q∈addL o a then addL o a else addL o a++[q]:=by rw[addL_app];rfl
variable{a:List Int}
def q2y:∀ {o:List Int} {x:Int},x∈addL o a↔x∈o∨x∈a:=by
 induction a with
 |nil=>intro o x;simp[addL]
 |cons q r ih=>
  intro o x;rw[addL,ih,yyk];by_cases h:q∈o
  ·rw[if_pos h];constructor
   ·rintro(h1|h1)
    ·exact .inl h1
    ·exact .inr (.inr h1)
   ·rintro(h1|rfl|h1)
    ·exact .inl h1
    ·exact .inl h
    ·exact .inr h1
  ·rw[if_neg h,yxd,yyp];constructor
   ·rintro((h1|h1)|h1)
    ·exact .inl h1
    ·exact .inr (.inl h1)
    ·exact .inr (.inr h1)
   ·rintro(h1|h1|h1)
    ·exact .inl (.inl h1)
    ·exact .inl (.inr h1)
    ·exact .inr h1
def q9s:∀ {o:List Int},o.Nodup→(addL o a).Nodup:=by
 induction a with
 |nil=>intro o h;exact h
 |cons q r ih=>
  intro o h;rw[addL];refine ih ?_;by_cases hq:q∈o
  ·rw[if_pos hq];exact h
  ·rw[if_neg hq,List.nodup_append];exact⟨h,by simp,fun x hx y hy=>by rw[yyp.1 hy];exact fun e=>hq (e▸hx)⟩
def addL_pre:∀ {o:List Int},∃ t,addL o a=o++t:=by
 induction a with
 |nil=>intro o;exact⟨[],by simp[addL]⟩
 |cons q r ih=>
  intro o;rw[addL];by_cases hq:q∈o
  ·rw[if_pos hq];exact ih
  ·rw[if_neg hq];obtain⟨t,ht⟩:=ih (o:=o++[q]);exact⟨q::t,by rw[ht];simp⟩
structure GI(f s lo hi:Int)(n:Nat)(sure:Bool)(p:Int)(i:Nat)(o:List Int):Prop where
 hp:p∈o
 nd:o.Nodup
 rg:∀ q∈o,-2≤q∧q<n
 rc:∀ q∈o,Rch f s lo hi n sure p q
 cl:∀ j,j<i→∀ q∈nearL f s lo hi n sure (o.getD j 0),q∈o
 le:i≤o.length
variable {f s lo hi:Int}{n:Nat}{sure:Bool}{p:Int}
def z88(hn:o.Nodup)(h:∀ q∈o,-2≤q∧q<(n:Int)):o.length≤n+2:=by
 have:=Ox.Two.nodup_le (l:=o) (l':=(List.range (n+2)).map fun k:Nat=>(k:Int)-2) hn fun q hq=>by have:=h q hq;rw[yy7];exact⟨(q+2).toNat,by rw[yy3];omega,by omega⟩
 simpa using this
def GI.start(hp:-2≤p∧p<n):GI f s lo hi n sure p 0 [p]:=⟨yyh,by simp,fun q hq=>by rw[yyp.1 hq];exact hp,fun q hq=>by rw[yyp.1 hq];exact .here,fun j hj=>absurd hj (Nat.not_lt_zero _),yyw _⟩
def GI.next(h:GI f s lo hi n sure p i o)(ha:i<o.length):GI f s lo hi n sure p (i+1) (addL o (nearL f s lo hi n sure (o.getD i 0))):=by
 have hm:o.getD i 0∈o:=by rw[w8 o ha];exact yy4 ha
 obtain⟨t,ht⟩:=addL_pre (o:=o) (a:=nearL f s lo hi n sure (o.getD i 0));have hg:∀ j,j<o.length→(addL o (nearL f s lo hi n sure (o.getD i 0))).getD j 0=o.getD j 0:=fun j hj=>by rw[ht,yyq,yyq,List.getElem?_append_left hj]
 refine⟨q2y.2 (.inl h.hp),q9s h.nd,fun q hq=>?_,fun q hq=>?_,fun j hj q hq=>?_,?_⟩
 ·rcases q2y.1 hq with hq|hq
  ·exact h.rg q hq
  ·exact(q10.1 hq).1
 ·rcases q2y.1 hq with hq|hq
  ·exact h.rc q hq
  ·exact .step (h.rc _ hm) hq
 ·rw[hg j (by omega)] at hq;by_cases e:j=i
  ·subst e;exact q2y.2 (.inr hq)
  ·exact q2y.2 (.inl (h.cl j (by omega) q hq))
 ·rw[ht,yyz];omega
def GI.all(h:GI f s lo hi n sure p o.length o):q∈o↔Rch f s lo hi n sure p q:=by
 refine⟨h.rc q,fun hr=>?_⟩;induction hr with
 |here=>exact h.hp
 |step _ h2 ih=>obtain⟨j,hj,e⟩:=List.getElem_of_mem ih;refine h.cl j hj _ ?_;rw[w8 o hj,e];exact h2
def mkG(o:List Int):List Int:=(List.range 12).map fun k:Nat=>if ((k:Int)-2)∈o then 1 else 0
def z0k(h:-2≤q∧q≤9){d:Int}:(mkG o).getD (Int.toNat (q+2)) d=if q∈o then 1 else 0:=by rw[mkG,yyq,List.getElem?_map,List.getElem?_range (by omega)];show(if ((Int.toNat (q+2):Nat):Int)-2∈o then _ else _)=_;rw[show((Int.toNat (q+2):Nat):Int)-2=q by omega]
def z90(h:-2≤q∧q≤9):(mkG o).set (Int.toNat (q+2)) 1=mkG (o++[q]):=by
 rw[mkG,q7p,mkG];refine List.map_congr_left fun k _=>?_;by_cases e:k=Int.toNat (q+2)
 ·rw[if_pos e,if_pos (List.mem_append_right _ (by rw[yyp];omega))]
 ·rw[if_neg e];by_cases e2:((k:Int)-2)∈o
  ·rw[if_pos e2,if_pos (yxy _ e2)]
  ·rw[if_neg e2,if_neg (fun h3=>by
    rcases yxd.1 h3 with h3|h3
    ·exact e2 h3
    ·rw[yyp] at h3;omega)]
def mkG_nil:List.replicate 12 (0:Int)=mkG []:=by decide
end Go.Proofs.YtjecebccchhmhaaGreatDoor.Dp
namespace Ox
open Go Go.RowKit
variable {X:Ctx}{s:S}{M:Mem}{ρ:Env}{a:Act}{w w':World}{QA:Exit→S→Prop}{all l:List Oper}{o:Oper}
variable {L:List (Nat×AV)}{H:List (Nat×HO)}{nx d:Nat}{ty:TypeId}{ps:String}{af:Array Edge}
def JL.strIx{bs:ByteArray}{k:IntKind}(ht:X.P.underlying t=some .string)(hv:opd L y=some (c2,.val (.int k) v))(h2:allP c2)(h0:0≤v)(hn:v.toNat<bs.size)(hd:ltB d X.n=true)
  (kk:∀ z:Int,0≤z∧z≤255→JL X true all QA l ⟨(d,.val (.int .u8) z)::L,H,nx⟩):JL X true all QA (⟨some d,.index t (.const (.string bs)) y,ty,ps,af,none⟩::l) ⟨L,H,nx⟩:=by
 have hb:bs[v.toNat].toNat<256:=UInt8.toNat_lt _;refine q08 rfl rfl (j9 hd) (v:=.val (.int .u8) (bs[v.toNat].toNat:Int)) (s':=⟨L,H,nx⟩) (fun M ρ a w k1 k2=>?_) (kk _ ⟨by omega,by omega⟩);have e2:=(z5 (s:=⟨L,H,nx⟩) hv h2 k2).2;rw[w6] at e2;refine⟨ρ,w,.value (.int .u8 (bs[v.toNat].toNat:Int)),?_,Env.upTo.refl _ _,yyl _,rfl,k1,trivial,.inl ⟨_,rfl,w6.2 rfl⟩⟩;have e3:(if 0≤v then bs[v.toNat]? else none)=some bs[v.toNat]:=by rw[if_pos h0,getElem?_pos]
 have e4:a.eval (.const (.string bs))=.string bs:=rfl;simp only[execOp,e2,e4,Instr.index,asIntOf,yye,yyf,run_underlying ht,yyb,e3]
def JK.strIx{r:List Fr}{t:TypeId}{bs:ByteArray}{y:Operand}{c2:List Prop}{k:IntKind}{v:Int}(ht:X.P.underlying t=some .string)(hv:opd L y=some (c2,.val (.int k) v))(h2:allP c2)(h0:0≤v)(hn:v.toNat<bs.size)(hd:ltB d X.n=true)
  (kk:∀ z:Int,0≤z∧z≤255→JK X (.ops true all l::r) QA ⟨(d,.val (.int .u8) z)::L,H,nx⟩):JK X (.ops true all (⟨some d,.index t (.const (.string bs)) y,ty,ps,af,none⟩::l)::r) QA ⟨L,H,nx⟩:=JL.strIx ht hv h2 h0 hn hd kk
end Ox
namespace Go.Proofs.YtjecebccchhmhaaGreatDoor.Dp
open Go Go.RowKit Ox Ox.Gl
attribute [local irreducible] JC JL JK JW
def fn231(x:Int):Ox.Fn Tryz.prog 231 (.acons (vI x) .anil) (·=vB false):=by refine zI Tryz.func231 rfl Tryz.call231 rfl fun E M0 up=>?_;refine zK0 ?_;refine zR rfl trivial ?_;refine congrArg vB ?_;simp
def fn199(x y:Int):Ox.Fn Tryz.prog 199 (.acons (vI x) (.acons (vI y) .anil)) (·=vB (decide (x<y))):=by
 refine zI Tryz.func199 rfl Tryz.call199 rfl fun E M0 up=>?_;have c1:=fn231 x;have c2:=fn231 y;obtain⟨b,hb⟩:∃ b,b=false:=⟨false,rfl⟩;rw[← hb] at c1 c2
 (repeat (first|refine zs rfl ?_|refine zg rfl rfl rfl ?_|refine n4 ?_|refine zc rfl (c1) rfl rfl ?_|refine zk rfl rfl (fun _=>c2) rfl rfl ?_))
 refine zR rfl trivial ?_;refine congrArg vB ?_;simp[hb]
abbrev sH(D:List Int):List (Nat×HO):=[(22,.fr 2 []),(21,.fr 1 []),(20,.fr 0 [(8,.lf (.optr 3 []))]),(3,.cell (.slice (.int .i64)) (.lf (.osl 2))),(2,.sl 3 (.int .i64) D)]
def sort_in(D0:List Int)(hn:D0.length≤12)(h0:1≤D0.length)
  {E:World} {M0 M1 M2 M3:Mem} {nn n1 n2:Nat} {up up1 up2 up3:Nat→Nat→Value} {K:AV→List (Nat×AV)→List (Nat×HO)→Nat→Prop} (hK:K (resV .anil) [] [(21,.fr 1 []),(20,.fr 0 [(8,.lf (.optr 3 []))]),(3,.cell (.slice (.int .i64)) (.lf (.osl 2))),(2,.sl 3 (.int .i64) (srtD (D0.length-1) D0))] 23) :
  JK (Ctx.sub (Ctx.sub (Ctx.sub ⟨Tryz.prog,tys,ets,mts,E,M0,nn,none,up,0⟩ M1 n1 none up1) M2 n2 none up2) M3 Tryz.f193.ntmps none up3) [.code (Tryz.f193.body.getD .skip)]
   (inlQ (Ctx.sub (Ctx.sub ⟨Tryz.prog,tys,ets,mts,E,M0,nn,none,up,0⟩ M1 n1 none up1) M2 n2 none up2) Tryz.f193.results.toList K) ⟨[(0,.lf (.osl 2)),(1,vI 0),(2,vI D0.length)],sH D0,23⟩:=by
 refine cdf (fn:=Tryz.f193) rfl ?_;refine zK0 ?_;refine JK.loop (fun i:Nat=>⟨[(0,.lf (.osl 2)),(1,vI 0),(2,vI D0.length),(6,vI ((i:Int)+1))],sH (srtD i D0),23⟩) (fun i=>i+1≤D0.length) (fun i=>D0.length-i) 0 h0 (by exact zJ) fun i hi=>?_;have ha:=q97 i D0;have hh:srtD (i+1) D0=insD (i+1) (srtD i D0):=rfl;have hb:i+1=D0.length→srtD i D0=srtD (D0.length-1) D0:=fun e=>by rw[← e];rfl
 generalize srtD i D0=D1 at ha hh hb ⊢;refine zK0 ?_;refine q9 rfl (fun hc=>?_) (fun hc=>?_)
 ·replace hc:=zC hc;refine zK0 ?_;refine JK.loop (σ:=Nat×List Int) (fun q=>⟨[(0,.lf (.osl 2)),(1,vI 0),(2,vI D0.length),(6,vI ((i:Int)+1)),(7,vI (q.1:Int))],sH q.2,23⟩) (fun q=>q.1≤i+1∧q.2.length=D0.length∧insD q.1 q.2=insD (i+1) D1) (fun q=>q.1) (i+1,D1) ⟨yyl _,ha,rfl⟩ (by exact zJ) fun⟨j,D⟩ ⟨hj,hk,hD⟩=>?_;dsimp only at hj hk hD ⊢;have c199:=fn199 (D.getD (Int.toNat (j:Int)) (Ty.int .i64).dflt) (D.getD (Int.toNat ((j:Int)-1)) (Ty.int .i64).dflt);have hw:(0:Int)≤j∧(j:Int)<D.length:=by omega
  refine zK2 ?_;refine g9 xk (Tryz.f193.body.getD .skip) ⟨[(0,.lf (.osl 2)),(1,vI 0),(2,vI D0.length),(6,vI ((i:Int)+1)),(7,vI (j:Int)),(30,vB (bif decide ((0:Int)<(j:Int)) then decide (D.getD (Int.toNat (j:Int)) (Ty.int .i64).dflt<D.getD (Int.toNat ((j:Int)-1)) (Ty.int .i64).dflt) else false))],sH D,23⟩ rfl 15 rfl ?_ ?_
  ·(refine q7 0 xk rfl rfl (q7 1 xk rfl rfl (q7 2 xk rfl rfl (q7 3 xk rfl rfl (q1w 4 xk rfl rfl rfl (q1w 5 xk rfl rfl rfl (q1w 6 xk rfl rfl rfl (q1w 8 xk rfl rfl rfl (q1w 9 xk rfl rfl rfl (q1w 10 xk rfl rfl rfl (q1w 11 xk rfl rfl rfl ?_))))))))));refine j0 7 [12] xk StF.nil (BrF.one rfl rfl ?_ (BrF.one rfl rfl ?_ BrF.nil));(· (refine z09 xk rfl rfl rfl ?_);refine q8 ?_;refine zU 12 xk rfl rfl ?_;(refine z09 xk rfl rfl rfl ?_);refine q8 ?_;refine zU 13 xk rfl rfl ?_;(refine z6n rfl rfl (fun hgd=>c199) rfl trivial rfl ?_);refine q8 ?_;refine q7 14 xk rfl rfl ?_;refine v7 xk StF.nil ?_;(exact zJ));(· (refine z09 xk rfl rfl rfl ?_);refine q8 ?_;refine zU 7 xk rfl rfl ?_;(refine z09 xk rfl rfl rfl ?_);refine q8 ?_;refine zU 13 xk rfl rfl ?_;(refine z6n rfl rfl (fun hgd=>c199) rfl trivial rfl ?_);refine q8 ?_;refine q7 14 xk rfl rfl ?_;refine v7 xk StF.nil ?_;(exact zJ)))
  refine q9 rfl (fun hd=>?_) (fun hd=>?_)
  ·obtain⟨k,rfl⟩:∃ k,j=k+1:=by
    cases j with
    |zero=>cases hd
    |succ k=>exact⟨k,rfl⟩
   have h1:decide ((0:Int)<((k+1:Nat):Int))=true:=by rw[yyu];omega
   have he:Int.toNat (((k+1:Nat):Int)-1)=k:=by omega
   rw[h1,cond_true,yyu,he,Int.toNat_natCast] at hd;have hs:insD k (swp D (k+1) k)=insD (i+1) D1:=by rw[← hD];show _=if D.getD (k+1) 0<D.getD k 0 then insD k (swp D (k+1) k) else D;exact(if_pos (show D.getD (k+1) 0<D.getD k 0 from hd)).symm
   have hu:(D.set (Int.toNat ((k+1:Nat):Int)) (D.getD (Int.toNat (((k+1:Nat):Int)-1)) (Ty.int .i64).dflt)).set (Int.toNat (((k+1:Nat):Int)-1)) (D.getD (Int.toNat ((k+1:Nat):Int)) (Ty.int .i64).dflt)=swp D (k+1) k:=by rw[he,Int.toNat_natCast];rfl
   have hy:(D.set (Int.toNat ((k+1:Nat):Int)) (D.getD (Int.toNat (((k+1:Nat):Int)-1)) (Ty.int .i64).dflt)).length=D.length:=by simp
   have hv:(0:Int)≤((k+1:Nat):Int)-1∧((k+1:Nat):Int)-1<D.length:=by omega
   clear he h1 hd c199 hD;refine zK2 ?_;refine z1b xk (Tryz.f193.body.getD .skip) ⟨[(0,.lf (.osl 2)),(1,vI 0),(2,vI D0.length),(6,vI ((i:Int)+1)),(7,vI ((k+1:Nat):Int))],sH ((D.set (Int.toNat ((k+1:Nat):Int)) (D.getD (Int.toNat (((k+1:Nat):Int)-1)) (Ty.int .i64).dflt)).set (Int.toNat (((k+1:Nat):Int)-1)) (D.getD (Int.toNat ((k+1:Nat):Int)) (Ty.int .i64).dflt)),23⟩ rfl 18 rfl ?_ ?_
   ·(refine q7 0 xk rfl rfl (q7 1 xk rfl rfl (q7 2 xk rfl rfl (q7 3 xk rfl rfl (q7 4 xk rfl rfl (q7 5 xk rfl rfl (q7 6 xk rfl rfl (q7 7 xk rfl rfl (q7 8 xk rfl rfl (q7 10 xk rfl rfl (q7 11 xk rfl rfl (q7 12 xk rfl rfl (z6 9 xk rfl rfl (z6 13 xk rfl rfl (z6 14 xk rfl rfl (zU 15 xk rfl rfl ?_)))))))))))))));refine zK3 ?_;refine q8 ?_;refine q7 16 xk rfl rfl (zU 17 xk rfl rfl ?_);refine zK3 ?_;refine q8 ?_;refine v7 xk StF.nil ?_;(exact zJ))
   rw[hu];have hg:(swp D (k+1) k).length=D0.length:=by rw[z3c,hk]
   generalize swp D (k+1) k=D' at hs hg ⊢;refine zK0 ?_;exact⟨(k,D'),by exact zJ,⟨by omega,hg,hs⟩,yy2 k⟩
  ·have hs:D=insD (i+1) D1:=by
    rw[← hD];cases j with
    |zero=>rfl
    |succ k=>
     have h1:decide ((0:Int)<((k+1:Nat):Int))=true:=by rw[yyu];omega
     have he:Int.toNat (((k+1:Nat):Int)-1)=k:=by omega
     rw[h1,cond_true,decide_eq_false_iff_not,he,Int.toNat_natCast] at hd;show _=if D.getD (k+1) 0<D.getD k 0 then insD k (swp D (k+1) k) else D;exact(if_neg (show ¬ D.getD (k+1) 0<D.getD k 0 from hd)).symm
   refine zK0 ?_;refine⟨i+1,?_,by omega,by omega⟩;rw[hh,← hs];exact zJ
 ·replace hc:=zC hc;rw[hb (by omega)];refine zK0 ?_;exact k7 (z5r rfl rfl rfl rfl hK)
end Go.Proofs.YtjecebccchhmhaaGreatDoor.Dp
namespace Go.Proofs.YtjecebccchhmhaaGreatDoor.Cb
open Go Go.RowKit Ox Ox.Gl
attribute [local irreducible] JC JL JK JW
def str9:Tryz.prog.underlying 9=some .string:=by kernel_rfl
def fn137(x:Int)(h:0≤x∧x<256):Ox.Fn Tryz.prog 137 (.acons (.val (.int .u64) x) .anil) (fun r=>∃ n:Int,0≤n∧n≤1000∧r=vI n):=by refine zI Tryz.func137 rfl Tryz.call137 rfl fun E M0 up=>?_;refine zK0 ?_;refine q9 rfl (fun hc=>absurd hc (by simp;omega)) (fun _=>?_);refine zK0 ?_;refine q9 rfl (fun hc=>absurd hc (by simp;omega)) (fun _=>?_);refine zK0 ?_;refine q9 rfl (fun hc=>absurd hc (by simp;omega)) (fun _=>?_);refine zK0 ?_;refine JK.strIx str9 rfl trivial h.1 (yxa (m:=256) (by omega) (by decide +kernel)) rfl fun z hz=>?_;refine zK0 ?_;refine zR rfl trivial ?_;exact⟨_,by show 0≤0+z;omega,by show 0+z≤1000;omega,rfl⟩
def fn64(x:Int)(h:0≤x∧x<256):Ox.Fn Tryz.prog 64 (.acons (.val (.int .u64) x) .anil) (fun r=>∃ n:Int,0≤n∧n≤1000∧r=vI n):=by refine zI Tryz.func64 rfl Tryz.call64 rfl fun E M0 up=>?_;have c:=fn137 x h;refine zK0 ?_;refine q9 rfl (fun hc=>by cases hc) (fun _=>?_);refine zK0 ?_;refine JK.cl rfl c rfl (fun r hr=>?_) trivial;obtain⟨n,h1,h2,rfl⟩:=hr;refine zK0 ?_;refine zR rfl trivial ?_;exact⟨n,h1,h2,rfl⟩
end Go.Proofs.YtjecebccchhmhaaGreatDoor.Cb
namespace Ox
open Go Go.RowKit
variable {X:Ctx}{s:S}
def q1u(f:Nat→Nat){B nx nx':Nat}{L:List (Nat×AV)}{H H':List (Nat×HO)}(hg:∀ l,l<B→f l=l)(hL:bdL B L)(hB:B≤nx')(hH:covH f H' H)(hh:bdH nx' H')(hi:injH f H'=true):JW X ⟨L,H',nx'⟩ ⟨L,H,nx⟩:=by
 intro M ρ a w h1 h2;have lkH:∀ l o,lk H' l=some o→lk H (f l)=some (o.ren f):=fun l o h=>q58 hH l o (w5 h);refine⟨ρ.via f,⟨h1.below,h1.msub,h1.mnew,h1.mem,fun l o hl=>?_,fun l l' o o' b hl ha hb he=>?_,fun l o b hl hb=>?_⟩,⟨h2.size,h2.defers,fun d v hd=>?_⟩⟩
 ·have e:=g8 hh l o (w5 hl);exact⟨e.1,e.2,q3o (h1.own _ _ (lkH l o hl)).2.2⟩
 ·rw[q0h] at hb he;exact q51 hi l o l' o' (w5 hl) (w5 ha) (h1.apart _ _ _ _ b (lkH l o hl) (lkH l' o' ha) hb he)
 ·rw[q0h] at hb;exact h1.notM _ _ b (lkH l o hl) hb
 ·have e1:=q1i hL d v (w5 hd);have hj:ρ.upTo (ρ.via f) B:=fun l hl=>by have:=hg l hl;refine⟨?_,?_,?_⟩<;>simp only[Env.via,this]
  exact⟨j3 hB e1,j5 (Mem.le_refl M) hj e1 (h2.reg d v hd).2⟩
def swL(m j l:Nat):Nat:=bif Nat.beq l m then j else l
variable {P:Program}{T:List (Nat×Ty)}{ET:List (Nat×Nat)}{MT:List (Nat×(Nat×Nat))}{E:World}{M0:Mem}{n:Nat}{rd:Option Nat}{up:Nat→Nat→Value}
def frD(d:Nat):List (Nat×HO)→Bool
 |[]=>true
 |(_,.fr i _)::r=>Nat.blt i d&&frD d r
 |_::r=>frD d r
def frD_lt{d:Nat}:∀ {H:List (Nat×HO)},frD d H=true→∀ {l i:Nat} {L:List (Nat×AV)},(l,.fr i L)∈H→i<d
 |[],_,_,_,_,hm=>by cases hm
 |(k,o)::r,h,l,i,L,hm=>by
  rcases yyk.1 hm with e|hm
  ·injection e with e1 e2
   subst e2;simp only[frD,yyc] at h;exact yyd h.1
  ·refine frD_lt (d:=d) ?_ hm;cases o<;>first|exact h|(simp only[frD,yyc] at h;exact h.2)
variable{d e:Nat}{M:Mem}{ρ:Env}
def SAT.dp{w:World}(hf:d≤e∨frD e s.H=true)(h:SAT ⟨P,T,ET,MT,E,M0,n,rd,up,d⟩ M ρ s w):SAT ⟨P,T,ET,MT,E,M0,n,rd,up,e⟩ M ρ s w:=
 ⟨h.below,h.msub,h.mnew,h.mem,fun l o ho=>⟨(h.own l o ho).1,(h.own l o ho).2.1,by
  have:=(h.own l o ho).2.2;cases o with
  |fr i L=>
   refine⟨?_,this.2⟩;rcases hf with hf|hf
   ·exact yxa this.1 hf
   ·exact frD_lt hf (w5 ho)
  |_=>exact this⟩,h.apart,h.notM⟩
def REG.dp{a:Act}(h:REG ⟨P,T,ET,MT,E,M0,n,rd,up,d⟩ M ρ s a):REG ⟨P,T,ET,MT,E,M0,n,rd,up,e⟩ M ρ s a:=⟨h.size,h.defers,h.reg⟩
def JK.dp{d:Nat}(e:Nat)(ha:d≤e){c:Code}{QA:Exit→S→Prop}(h:JK ⟨P,T,ET,MT,E,M0,n,rd,up,e⟩ [.code c] (fun x s=>QA x s∧frD d s.H=true) s):JK ⟨P,T,ET,MT,E,M0,n,rd,up,d⟩ [.code c] QA s:=by have h:JC ⟨P,T,ET,MT,E,M0,n,rd,up,e⟩ c (fun x s=>QA x s∧frD d s.H=true) s:=h;show JC ⟨P,T,ET,MT,E,M0,n,rd,up,d⟩ c QA s;intro M ρ a w h1 h2;exact wpIn_mono (h M ρ a w (h1.dp (.inl ha)) h2.dp) fun ex a' w' ⟨M',ρ',s',k1,k2,k3⟩=>⟨M',ρ',s',k1.dp (.inr k3.2),k2.dp,k3.1⟩
end Ox
namespace Go.Proofs.YtjecebccchhmhaaGreatDoor.Dp
open Go Go.RowKit Ox Ox.Gl
attribute [local irreducible] JC JL JK JW
abbrev plT:Ty:=.cons (.int .i64) .nil
def eq145:EqT Tryz.prog plT 145:=.of (by decide +kernel)
attribute [local irreducible] mkG
variable {f s lo hi:Int}{n:Nat}
abbrev mgT:Ty:=.arr 12 (.int .i64)
abbrev HG0(p:Int)(o:List Int):List (Nat×HO):=[(3,.cell (.slice (.int .i64)) (.lf (.osl 2))),(2,.sl 3 (.int .i64) o),(1,.cell mgT (.val mgT (mkG o))),(0,.cell (.int .i64) (vI p))]
abbrev LG(f s lo hi:Int)(n:Nat)(sure:Bool)(i:Nat):List (Nat×AV):=[(0,pTb f s lo hi n),(2,vB sure),(4,.lf (.optr 0 [])),(7,.lf (.optr 1 [])),(8,.lf (.optr 3 [])),(9,vI (i:Int))]
abbrev KG(a b:Code)(f s lo hi:Int)(n:Nat)(sure:Bool)(i:Nat)(p:Int)(o:List Int):List (Nat×HO):=(5,.fr 0 ((56,.lf (.yld 4))::LG f s lo hi n sure i))::(4,.loop .ready none #[31] a b 56 (LG f s lo hi n sure i))::HG0 p o
def KG_bd{sure:Bool}:bdH 6 (KG a b f s lo hi n sure i p o):=⟨ltk rfl,y6 ⟨ltk rfl,trivial,trivial,ltk rfl,ltk rfl,ltk rfl,trivial,trivial⟩,ltk rfl,s7 ⟨trivial,trivial,ltk rfl,ltk rfl,ltk rfl,trivial,trivial⟩,ltk rfl,ltk rfl,ltk rfl,trivial,ltk rfl,trivial,ltk rfl,trivial,trivial⟩
def KG_bd0{sure:Bool}{mk:List Int}:bdH 6 ((5,.fr 0 ((56,.lf (.yld 4))::LG f s lo hi n sure i))::(4,.loop .ready none #[31] a b 56 (LG f s lo hi n sure i))::[(3,.cell (.slice (.int .i64)) (.lf (.osl 2))),(2,.sl 3 (.int .i64) o),(1,.cell mgT (.val mgT mk)),(0,.cell (.int .i64) (vI p))]):=⟨ltk rfl,y6 ⟨ltk rfl,trivial,trivial,ltk rfl,ltk rfl,ltk rfl,trivial,trivial⟩,ltk rfl,s7 ⟨trivial,trivial,ltk rfl,ltk rfl,ltk rfl,trivial,trivial⟩,ltk rfl,ltk rfl,ltk rfl,trivial,ltk rfl,trivial,ltk rfl,trivial,trivial⟩
def q0u{m d:Nat}:∀ {L:List (Nat×AV)},bdL m L→bdL m (del L d)
 |[],_=>trivial
 |(k,v)::r,h=>by
  rw[del];split
  ·exact q0u h.2
  ·exact⟨h.1,q0u h.2⟩
def FR_bd{st:LoopState}{sure:Bool}{K0:List (Nat×HO)}(h:bdH 6 K0):bdH 203 (N2.FR st a b f s lo hi n z sure 4 q++K0):=⟨ltk rfl,y6 ⟨ltk rfl,ltk rfl,trivial,trivial,trivial⟩,ltk rfl,y6 ⟨ltk rfl,trivial,trivial,trivial,ltk rfl,trivial⟩,ltk rfl,s7 ⟨trivial,trivial,trivial,ltk rfl,trivial⟩,d9 (by omega) h⟩
set_option maxRecDepth 20000 in
set_option maxHeartbeats 4000000 in
def fn43(h:okB f s lo hi n)(hp:-2≤p∧p<n)(sure:Bool):Ox.Fn Tryz.prog 43 (.acons (pTb f s lo hi n) (.acons (vI p) (.acons (vB sure) .anil))) (fun r=>∃ xs:List Int,r=vL xs∧xs.length≤8∧∀ q,q∈xs↔Rch f s lo hi n sure p q):=by
 refine zI Tryz.func43 rfl Tryz.call43 rfl fun E M0 up=>?_;have h6:=h.n6;have hw:(0:Int)≤p+2∧p+2<12:=by omega
 refine zK0 ?_;have hy:(mkG []).set (Int.toNat (p+2)) 1=mkG [p]:=z90 (by omega);refine JK.loop (σ:=Nat×List Int) (fun q=>⟨LG f s lo hi n sure q.1,HG0 p q.2,4⟩) (fun q=>GI f s lo hi n sure p q.1 q.2) (fun q=>9-q.1) (0,[p]) (GI.start hp) (by show JW _ ⟨LG f s lo hi n sure 0,[(3,.cell (.slice (.int .i64)) (.lf (.osl 2))),(2,.sl 3 (.int .i64) [p]),(1,.cell mgT (.val mgT (mkG [p]))),(0,.cell (.int .i64) (vI p))],4⟩ _;rw[← hy,← mkG_nil];exact JW.same ⟨rfl,rfl,rfl,rfl,rfl,rfl,trivial⟩) fun⟨i,o⟩ hI=>?_
 dsimp only at hI ⊢;have hG:=z88 hI.nd hI.rg;have hH:=hI.le;refine zK0 ?_;refine q9 rfl (fun hc=>?_) (fun hc=>?_)
 ·have hc:(i:Int)<(o.length:Int):=of_decide_eq_true hc;have hJ:(0:Int)≤(i:Int)∧(i:Int)<o.length:=by omega
  have hA:o.getD i 0∈o:=by rw[w8 o (by omega)];exact yy4 (by omega)
  have hB:=hI.rg _ hA;have c71:=fn71 (f:=f) (s:=s) (lo:=lo) (hi:=hi) (n:=n) (o.getD (Int.toNat (i:Int)) (Ty.int .i64).dflt) sure;have hb:=hI.next (by omega)
  (repeat (first|refine zs rfl ?_|refine ze rfl (c71) rfl ?_))
  refine q2m [0,2,4,7,8,9] rfl rfl Tryz.func142 rfl Tryz.call142 (yyd rfl) trivial fun M3 up3 a1 b1 hC hD=>?_;refine u9 (s':=⟨[(0,.lf (.yld 4)),(1,ppTb f s lo hi n),(2,pI (o.getD i 0)),(3,.val (.ptr .bool) (some sure))],KG a1 b1 f s lo hi n sure i p (addL o []),200⟩) (JW.low ⟨rfl,rfl,rfl,rfl,trivial⟩ (subH.refl _) ⟨ltk rfl,trivial,trivial,trivial,trivial⟩ (d9 (by omega) KG_bd)) ?_;refine JK.dp 3 (yyd rfl) ?_;refine N2.near_in (nn:=0) (rd:=none) (up:=up3) (M0:=M3) h sure hB (fun _=>false) (fun pre=>KG a1 b1 f s lo hi n sure i p (addL o pre)) (fun _=>[]) (ltk rfl) (fun pre=>d9 (by omega) KG_bd) (fun _=>trivial) (fun pre=>⟨rfl,rfl⟩) (fun q=>⟨rfl,rfl⟩) ?_ ?_ ?_
  ·intro pre q post hE hq M4 rd4 up4 a2 b2;refine YI.intro (ps:=#[31]) (assign:=a1) (body:=b1) (nO:=56) (LO:=LG f s lo hi n sure i) (L0:=(31,vI q)::LG f s lo hi n sure i) rfl rfl rfl fun Lf M5 up5 bl hLf hK=>JK.start (v9 hC ?_);refine zK0 ?_;refine k7 (q0f rfl rfl rfl rfl (JK.start (v9 hD ?_)))
   (repeat (first|refine zs rfl ?_|refine zg rfl rfl rfl ?_|refine zne eq145 rfl rfl rfl ?_))
   have hk:p∈addL o pre:=q2y.2 (.inl hI.hp);have ha:=j2d o pre q;have hj:(mkG (addL o pre)).getD (Int.toNat (q+2)) (Ty.int .i64).dflt=if q∈addL o pre then 1 else 0:=z0k (by omega);have hu:=z90 (o:=addL o pre) (q:=q) (by omega);have hL:(0:Int)≤q+2∧q+2<12:=by omega
   have hg:(addL o pre).length≤1000:=by
    have:=z88 (n:=n) (q9s (a:=pre) hI.nd) fun x hx=>by
     rcases q2y.1 hx with hx|hx
     ·exact hI.rg x hx
     ·exact(q10.1 (show x∈nearL f s lo hi n sure (o.getD i 0) by rw[hE];exact yxy _ hx)).1
    omega
   refine q9 rfl (fun hd=>?_) (fun hd=>?_)
   ·have hd:(bif !plT.eqB (q,()) (p,()) then(mkG (addL o pre)).getD (Int.toNat (q+2)) (Ty.int .i64).dflt==0 else false)=true:=hd;have hv:q∉addL o pre:=fun hq=>by rw[hj,if_pos hq] at hd;cases hx:plT.eqB (q,()) (p,())<;>rw[hx] at hd<;>cases hd
    rw[if_neg hv] at ha;rw[ha];generalize addL o pre=o' at hu hg ⊢;clear hd hj hk hv ha;refine zK0 ?_;refine k7 (bodyQ.of rfl rfl rfl rfl rfl rfl ⟨rfl,?_,rfl⟩);show JW _ ⟨del Lf 29,N2.FR .busy a2 b2 f s lo hi n (o.getD i 0) sure 4 q++((5,.fr 0 ((56,.lf (.yld 4))::LG f s lo hi n sure i))::(4,.loop .ready none #[31] a1 b1 56 (LG f s lo hi n sure i))::[(3,.cell (.slice (.int .i64)) (.lf (.osl 2))),(2,.sl 3 (.int .i64) (o'++[q])),(1,.cell mgT (.val mgT (mkG (o'++[q])))),(0,.cell (.int .i64) (vI p))]),203⟩ _;rw[← hu];exact q1u (swL 2 206) (B:=0) (fun l hl=>absurd hl (Nat.not_lt_zero _)) (q0u hLf) (yyw _) ⟨rfl,rfl,rfl,rfl,rfl,rfl,rfl,rfl,rfl,trivial⟩ (FR_bd KG_bd0) rfl
   ·have hd:(bif !plT.eqB (q,()) (p,()) then(mkG (addL o pre)).getD (Int.toNat (q+2)) (Ty.int .i64).dflt==0 else false)=false:=hd;have hh:q∈addL o pre:=by
     refine yxh fun hq=>?_;rw[hj,if_neg hq] at hd;cases hx:plT.eqB (q,()) (p,()) with
     |true=>have:=y7.1 hx;have e:q=p:=congrArg Prod.fst this;exact hq (by rw[e];exact hk)
     |false=>rw[hx] at hd;cases hd
    rw[if_pos hh] at ha;rw[ha];generalize addL o pre=o' at hu hg ⊢;clear hd hj hk hh ha;refine zK0 ?_;refine k7 (bodyQ.of rfl rfl rfl rfl rfl rfl ⟨rfl,?_,rfl⟩);show JW _ ⟨del Lf 29,N2.FR .busy a2 b2 f s lo hi n (o.getD i 0) sure 4 q++((5,.fr 0 ((56,.lf (.yld 4))::LG f s lo hi n sure i))::(4,.loop .ready none #[31] a1 b1 56 (LG f s lo hi n sure i))::[(3,.cell (.slice (.int .i64)) (.lf (.osl 2))),(2,.sl 3 (.int .i64) o'),(1,.cell mgT (.val mgT (mkG o'))),(0,.cell (.int .i64) (vI p))]),203⟩ _;exact q1u (swL 2 2) (B:=0) (fun l hl=>absurd hl (Nat.not_lt_zero _)) (q0u hLf) (yyw _) ⟨rfl,rfl,rfl,rfl,rfl,rfl,rfl,rfl,rfl,trivial⟩ (FR_bd KG_bd0) rfl
  ·intro hst e L m hm he;refine⟨?_,rfl⟩;refine rngQ.of he rfl rfl rfl rfl rfl rfl rfl (q18 ?_);refine zK0 ?_;exact⟨(i+1,addL o (nearL f s lo hi n sure (o.getD i 0))),JW.low ⟨rfl,rfl,rfl,rfl,rfl,rfl,trivial⟩ (subH.refl _) ⟨trivial,trivial,ltk rfl,ltk rfl,ltk rfl,trivial,trivial⟩ ⟨ltk rfl,ltk rfl,ltk rfl,trivial,ltk rfl,trivial,ltk rfl,trivial,trivial⟩,hb,by dsimp only;omega⟩
  ·intro q hq hs;cases hs
 ·have hc:¬ (i:Int)<(o.length:Int):=of_decide_eq_false hc;have hF:i=o.length:=by omega
  subst hF;have hall:=fun q=>hI.all (q:=q);have h1:1≤o.length:=by
   cases o with
   |nil=>exact absurd hI.hp yy9
   |cons a t=>simp
  refine zK0 ?_;refine x7 (s':=⟨[(53,.lf (.osl 2)),(8,.lf (.optr 3 []))],[(3,.cell (.slice (.int .i64)) (.lf (.osl 2))),(2,.sl 3 (.int .i64) o)],20⟩) (JW.low ⟨rfl,rfl,trivial⟩ (q3q ⟨rfl,rfl,trivial⟩) ⟨ltk rfl,ltk rfl,trivial⟩ ⟨ltk rfl,ltk rfl,ltk rfl,trivial,trivial⟩) ?_;refine q0k [8] rfl rfl trivial Tryz.func74 rfl Tryz.call74 (yyd rfl) rfl fun M1 up1=>?_;refine zK0 ?_;refine JK.cl rfl (Cb.fn64 (o.length:Int) (by omega)) rfl (fun r hr=>?_) trivial;obtain⟨lm,_,_,rfl⟩:=hr;refine zK0 ?_;refine q0k [] rfl rfl trivial Tryz.func144 rfl Tryz.call144 (yyd rfl) rfl fun M2 up2=>?_;refine zK0 ?_;refine JK.loop (fun _:Unit=>⟨[(0,.lf (.osl 2)),(1,vI 0),(2,vI o.length),(3,vI lm)],[(21,.fr 1 []),(20,.fr 0 [(8,.lf (.optr 3 []))]),(3,.cell (.slice (.int .i64)) (.lf (.osl 2))),(2,.sl 3 (.int .i64) o)],22⟩) (fun _=>True) (fun _=>0) () trivial (JW.same ⟨rfl,rfl,rfl,rfl,trivial⟩) fun _ _=>?_;refine zK0 ?_;refine q9 rfl (fun _=>?_) (fun hd=>absurd (show decide ((o.length:Int)-0≤12)=false from hd) (by simp;omega));refine zK0 ?_;refine q0k [] rfl rfl trivial Tryz.func193 rfl Tryz.call193 (yyd rfl) rfl fun M3 up3=>?_;refine sort_in o (by omega) h1 ?_;have hp:=z1l (i:=o.length-1) (l:=o) (by omega);generalize srtD (o.length-1) o=o2 at hp ⊢;refine zK0 ?_;refine n8 rfl rfl rfl rfl ?_;refine zK0 ?_;refine k7 (z5r rfl rfl rfl rfl ?_)
  (iterate 4 (first|refine zs rfl ?_|refine JK.fin ?_))
  refine q84 (H':=[]) (L':=[]) (nx':=0) 2 55 rfl rfl trivial (fun l o h=>by cases h) rfl trivial trivial ?_;refine zK0 ?_;refine⟨.inl rfl,_,_,rfl,trivial,o2,rfl,by rw[hp.length_eq];omega,fun q=>?_⟩;rw[hp.mem_iff];exact hall q
end Go.Proofs.YtjecebccchhmhaaGreatDoor.Dp
namespace Go.Proofs.YtjecebccchhmhaaGreatDoor.Dp
open Go Go.RowKit Ox Ox.Gl
abbrev EnP:=Ent plT (.int .i64)
def stF(es:List EnP)(x:Int):Option Int:=if mHas es ((x,()):plT.den)=true then some (mGet es ((x,()):plT.den) (0:Int)) else none
variable {es:List EnP}{clk:Nat}{x y v:Int}
def q7q{k:plT.den}:mHas es k=true↔∃ e∈es,e.1=k:=by
 unfold mHas;cases h:mIdx es k with
 |none=>have:=q04.1 h;simp only[Option.isSome_none,yys,false_iff];rintro⟨e,he,hk⟩;exact this e he hk
 |some j=>obtain⟨hj,e⟩:=q2d h;simp only[Option.isSome_some,true_iff];exact⟨es[j],yy4 hj,e⟩
def q5o(h:MWF es clk):stF es x=some v↔∃ e∈es,e.1=(x,())∧e.2.1=v:=by
 unfold stF;by_cases hh:mHas es ((x,()):plT.den)=true
 ·rw[if_pos hh];obtain⟨e,he,hk⟩:=q7q.1 hh;have hg:mGet es ((x,()):plT.den) (0:Int)=e.2.1:=by rw[← hk];exact q3u h he
  rw[hg];constructor
  ·intro h1;injection h1 with h1
   exact⟨e,he,hk,h1⟩
  ·rintro⟨e',ha,hb,rfl⟩;rw[h.eq he ha (hk.trans hb.symm)]
 ·rw[if_neg hh];constructor
  ·intro h1;cases h1
  ·rintro⟨e,he,hk,_⟩;exact absurd (q7q.2 ⟨e,he,hk⟩) hh
def q96:stF es x=none↔∀ e∈es,e.1≠(x,()):=by
 unfold stF;by_cases hh:mHas es ((x,()):plT.den)=true
 ·rw[if_pos hh];obtain⟨e,he,hk⟩:=q7q.1 hh;exact⟨fun h1=>(by cases h1),fun h1=>absurd hk (h1 e he)⟩
 ·rw[if_neg hh];exact⟨fun _ e he hk=>hh (q7q.2 ⟨e,he,hk⟩),fun _=>rfl⟩
def z9h{a b:Option Int}(h:∀ v,a=some v↔b=some v):a=b:=by
 cases a with
 |none=>cases b with
  |none=>rfl
  |some w=>exact absurd ((h w).2 rfl) (by simp)
 |some w=>exact((h w).1 rfl).symm
def z3f(h:MWF es clk):stF (mPut es clk ((y,()):plT.den) v) x=if x=y then some v else stF es x:=by
 refine z9h fun w=>?_;rw[q5o h.put];by_cases e:x=y
 ·subst e;rw[if_pos rfl];constructor
  ·rintro⟨e,he,hk,rfl⟩;rcases(q1f h).1 he with⟨_,h2⟩|⟨_,h2,_⟩
   ·exact absurd hk h2
   ·rw[h2]
  ·intro h1;injection h1 with h1
   subst h1;exact⟨((x,()),v,mBorn es clk (x,())),(q1f h).2 (.inr ⟨rfl,rfl,rfl⟩),rfl,rfl⟩
 ·rw[if_neg e,q5o h];have ha:((x,()):plT.den)≠(y,()):=fun h1=>e (congrArg Prod.fst h1);constructor
  ·rintro⟨e',he,hk,hv⟩;rcases(q1f h).1 he with⟨h1,_⟩|⟨h2,_⟩
   ·exact⟨e',h1,hk,hv⟩
   ·exact absurd (hk.symm.trans h2) ha
  ·rintro⟨e',he,hk,hv⟩;exact⟨e',(q1f h).2 (.inl ⟨he,by rw[hk];exact ha⟩),hk,hv⟩
def stF_del(h:MWF es clk):stF (mDel es ((y,()):plT.den)) x=if x=y then none else stF es x:=by
 refine z9h fun w=>?_;rw[q5o h.del];by_cases e:x=y
 ·subst e;rw[if_pos rfl];refine⟨?_,fun h1=>by cases h1⟩;rintro⟨e,he,hk,_⟩;exact absurd hk ((q7r h).1 he).2
 ·rw[if_neg e,q5o h];have ha:((x,()):plT.den)≠(y,()):=fun h1=>e (congrArg Prod.fst h1);constructor
  ·rintro⟨e',he,hk,hv⟩;exact⟨e',((q7r h).1 he).1,hk,hv⟩
  ·rintro⟨e',he,hk,hv⟩;exact⟨e',(q7r h).2 ⟨he,by rw[hk];exact ha⟩,hk,hv⟩
def z1k:es.length=0↔∀ x,stF es x=none:=by
 constructor
 ·intro h x;rw[List.length_eq_zero_iff.1 h];exact q96.2 fun e he=>by cases he
 ·intro h;cases es with
  |nil=>rfl
  |cons e r=>obtain⟨⟨k,u⟩,w,b⟩:=e;exact absurd rfl (q96.1 (h k) ((k,()),w,b) yyh)
def stF_len{n:Nat}(h:MWF es clk)(hr:∀ x,stF es x≠none→-2≤x∧x<n):es.length≤n+2:=by
 have h1:=z88 (n:=n) (o:=es.map fun e=>e.1.1) (by
  exact List.pairwise_map.2 ((List.pairwise_map.1 h.nk).imp fun ha e=>ha (Prod.ext e rfl))) fun q hq=>by
  obtain⟨e,he,rfl⟩:=yy7.1 hq;exact hr _ fun hn=>q96.1 hn e he rfl
 rwa[yx5] at h1
structure MS where
 es:List EnP
 c1:Nat
 ew:List EnP
 c2:Nat
def stepM(k:Int)(S:MS)(x:Int):MS:=if mHas S.es ((x,()):plT.den)=true then S else⟨mPut S.es S.c1 ((x,()):plT.den) (k+1),mClk S.es S.c1 ((x,()):plT.den),mPut S.ew S.c2 ((x,()):plT.den) (k+1),mClk S.ew S.c2 ((x,()):plT.den)⟩
def addM(k:Int)(S:MS)(pre:List Int):MS:=pre.foldl (stepM k) S
def j2c(k:Int)(S:MS)(pre:List Int)(x:Int):addM k S (pre++[x])=stepM k (addM k S pre) x:=by simp[addM]
structure wfM(S:MS):Prop where
 w1:MWF S.es S.c1
 w2:MWF S.ew S.c2
def z5w:mHas es ((x,()):plT.den)=true↔stF es x≠none:=by
 unfold stF;by_cases h:mHas es ((x,()):plT.den)=true
 ·simp[h]
 ·simp[h]
def stepM_wf{k x:Int}{S:MS}(h:wfM S):wfM (stepM k S x):=by
 unfold stepM;split
 ·exact h
 ·exact⟨h.w1.put,h.w2.put⟩
def stepM_es{k x y:Int}{S:MS}(h:wfM S):stF (stepM k S x).es y=if stF S.es y=none∧y=x then some (k+1) else stF S.es y:=by
 unfold stepM;by_cases hh:mHas S.es ((x,()):plT.den)=true
 ·rw[if_pos hh];by_cases e:stF S.es y=none∧y=x
  ·exact absurd (e.2▸e.1) (z5w.1 hh)
  ·rw[if_neg e]
 ·rw[if_neg hh];show stF (mPut S.es S.c1 ((x,()):plT.den) (k+1)) y=_;have hn:stF S.es x=none:=by refine yxh fun h1=>hh (z5w.2 h1)
  rw[z3f h.w1];by_cases e:y=x
  ·subst e;rw[if_pos rfl,if_pos ⟨hn,rfl⟩]
  ·rw[if_neg e,if_neg fun h1=>e h1.2]
def stepM_ew{k x y:Int}{S:MS}(h:wfM S):stF (stepM k S x).ew y=if stF S.es y=none∧y=x then some (k+1) else stF S.ew y:=by
 unfold stepM;by_cases hh:mHas S.es ((x,()):plT.den)=true
 ·rw[if_pos hh];by_cases e:stF S.es y=none∧y=x
  ·exact absurd (e.2▸e.1) (z5w.1 hh)
  ·rw[if_neg e]
 ·rw[if_neg hh];show stF (mPut S.ew S.c2 ((x,()):plT.den) (k+1)) y=_;have hn:stF S.es x=none:=by refine yxh fun h1=>hh (z5w.2 h1)
  rw[z3f h.w2];by_cases e:y=x
  ·subst e;rw[if_pos rfl,if_pos ⟨hn,rfl⟩]
  ·rw[if_neg e,if_neg fun h1=>e h1.2]
def z6i{k:Int}:∀ {pre:List Int} {S:MS},wfM S→wfM (addM k S pre)∧∀ y,stF (addM k S pre).es y=(if stF S.es y=none∧y∈pre then some (k+1) else stF S.es y)∧stF (addM k S pre).ew y=(if stF S.es y=none∧y∈pre then some (k+1) else stF S.ew y)
 |[],S,h=>⟨h,fun y=>⟨by rw[if_neg fun e=>yy9 e.2];rfl,by rw[if_neg fun e=>yy9 e.2];rfl⟩⟩
 |x::r,S,h=>by
  obtain⟨h1,h2⟩:=z6i (k:=k) (pre:=r) (stepM_wf (k:=k) (x:=x) h);refine⟨h1,fun y=>?_⟩;obtain⟨a1,a2⟩:=h2 y;have b1:=stepM_es (k:=k) (x:=x) (y:=y) h;have b2:=stepM_ew (k:=k) (x:=x) (y:=y) h;show stF (addM k (stepM k S x) r).es y=_∧stF (addM k (stepM k S x) r).ew y=_;rw[a1,a2,b1,b2];by_cases hn:stF S.es y=none
  ·by_cases e:y=x
   ·subst e;simp[hn]
   ·have hx:y∈x::r↔y∈r:=by rw[yyk];exact⟨fun h=>h.resolve_left e,.inr⟩
    rw[if_neg (fun h:stF S.es y=none∧y=x=>e h.2),if_neg (fun h:stF S.es y=none∧y=x=>e h.2)];constructor<;>simp only[hx]
  ·have q1:¬ (stF S.es y=none∧y=x):=fun h=>hn h.1;have q2:¬ (stF S.es y=none∧y∈x::r):=fun h=>hn h.1;have q3:¬ (stF S.es y=none∧y∈r):=fun h=>hn h.1;simp only[if_neg q1,if_neg q2,if_neg q3,and_self]
structure BI(f s lo hi:Int)(n:Nat)(sure:Bool)(q:Int)(k:Int)(i:Nat)(S:MS):Prop where
 wf:wfM S
 k0:0≤k
 q0:stF S.es q=some 0
 up:∀ x v,stF S.es x=some v→(0≤v∧v≤k+1)∧(-2≤x∧x<n)∧Rch f s lo hi n sure q x∧(0<v→∃ y,stF S.es y=some (v-1)∧x∈nearL f s lo hi n sure y)
 wt:∀ x v,stF S.ew x=some v↔stF S.es x=some v∧((v=k∧(i:Int)≤x+2)∨v=k+1)
 cl:∀ x v,stF S.es x=some v→(v<k∨(v=k∧x+2<i))→∀ y∈nearL f s lo hi n sure x,stF S.es y≠none
 z0:∀ x,stF S.es x=some 0→x=q
variable {f s lo hi:Int}{n:Nat}{sure:Bool}{q k:Int}{i:Nat}{S:MS}
def BI.start(hq:-2≤q∧q<n)(hw:wfM S)(h1:∀ x,stF S.es x=if x=q then some 0 else none)(h2:∀ x,stF S.ew x=if x=q then some 0 else none):BI f s lo hi n sure q 0 0 S:=by
 have hz:∀ x v,stF S.es x=some v→x=q∧v=0:=fun x v h=>by
  rw[h1] at h;by_cases e:x=q
  ·rw[if_pos e] at h;injection h with h;exact⟨e,h.symm⟩
  ·rw[if_neg e] at h;cases h
 refine⟨hw,Int.le_refl _,by rw[h1,if_pos rfl],fun x v h=>?_,fun x v=>?_,fun x v h hc=>?_,fun x h=>(hz x 0 h).1⟩
 ·obtain⟨rfl,rfl⟩:=hz x v h;exact⟨by omega,hq,.here,fun h=>absurd h (by omega)⟩
 ·rw[h2,h1];constructor
  ·intro h;refine⟨h,?_⟩;obtain⟨rfl,rfl⟩:=hz x v (by rw[h1];exact h);exact .inl ⟨rfl,by omega⟩
  ·exact fun h=>h.1
 ·obtain⟨rfl,rfl⟩:=hz x v h;omega
def BI.skip(h:BI f s lo hi n sure q k i S)(hn:stF S.ew ((i:Int)-2)≠some k):BI f s lo hi n sure q k (i+1) S:=by
 have hx:∀ x,stF S.es x=some k→(i:Int)≤x+2→x+2≠i:=fun x hx ha e=>by refine hn ?_;rw[show(i:Int)-2=x by omega];exact(h.wt x k).2 ⟨hx,.inl ⟨rfl,ha⟩⟩
 refine⟨h.wf,h.k0,h.q0,h.up,fun x v=>?_,fun x v hv hc=>?_,h.z0⟩
 ·rw[h.wt x v];constructor
  ·rintro⟨a,b|b⟩
   ·have:=hx x (b.1▸a) b.2;exact⟨a,.inl ⟨b.1,by omega⟩⟩
   ·exact⟨a,.inr b⟩
  ·rintro⟨a,b|b⟩
   ·exact⟨a,.inl ⟨b.1,by omega⟩⟩
   ·exact⟨a,.inr b⟩
 ·refine h.cl x v hv ?_;rcases hc with hc|⟨rfl,hc⟩
  ·exact .inl hc
  ·by_cases e:(i:Int)≤x+2
   ·exact absurd (by omega) (hx x hv e)
   ·exact .inr ⟨rfl,by omega⟩
def BI.proc(h:BI f s lo hi n sure q k i S)(hn:stF S.ew ((i:Int)-2)=some k):BI f s lo hi n sure q k (i+1) (addM k ⟨S.es,S.c1,mDel S.ew (((i:Int)-2,()):plT.den),S.c2⟩ (nearL f s lo hi n sure ((i:Int)-2))):=by
 have h0:=((h.wt _ _).1 hn).1;obtain⟨-,-,hg,-⟩:=h.up _ _ h0;obtain⟨w,ha⟩:=z6i (k:=k) (pre:=nearL f s lo hi n sure ((i:Int)-2)) (S:=⟨S.es,S.c1,mDel S.ew (((i:Int)-2,()):plT.den),S.c2⟩) ⟨h.wf.w1,h.wf.w2.del⟩;generalize addM k ⟨S.es,S.c1,mDel S.ew (((i:Int)-2,()):plT.den),S.c2⟩ (nearL f s lo hi n sure ((i:Int)-2))=T at w ha ⊢;have he:∀ y,stF T.es y=if stF S.es y=none∧y∈nearL f s lo hi n sure ((i:Int)-2) then some (k+1) else stF S.es y:=fun y=>(ha y).1;have hw:∀ y,stF T.ew y=if stF S.es y=none∧y∈nearL f s lo hi n sure ((i:Int)-2) then some (k+1) else if y=(i:Int)-2 then none else stF S.ew y:=fun y=>by rw[(ha y).2];dsimp only;rw[stF_del h.wf.w2]
 have keep:∀ y v,stF S.es y=some v→stF T.es y=some v:=fun y v hy=>by rw[he,if_neg fun e=>by rw[e.1] at hy;cases hy];exact hy
 have hh:=h.k0;refine⟨w,h.k0,keep _ _ h.q0,fun x v hv=>?_,fun x v=>?_,fun x v hv hc y hy=>?_,fun x hv=>?_⟩
 ·rw[he] at hv;by_cases e:stF S.es x=none∧x∈nearL f s lo hi n sure ((i:Int)-2)
  ·rw[if_pos e] at hv;injection hv with hv
   subst hv;exact⟨by omega,(q10.1 e.2).1,.step hg e.2,fun _=>⟨(i:Int)-2,by rw[show k+1-1=k by omega];exact keep _ _ h0,e.2⟩⟩
  ·rw[if_neg e] at hv;obtain⟨a,b,c,d⟩:=h.up x v hv;exact⟨a,b,c,fun hp=>let ⟨y,y1,y2⟩:=d hp;⟨y,keep _ _ y1,y2⟩⟩
 ·rw[he,hw];by_cases e:stF S.es x=none∧x∈nearL f s lo hi n sure ((i:Int)-2)
  ·rw[if_pos e,if_pos e];constructor
   ·intro hv;injection hv with hv
    exact⟨by rw[hv],.inr hv.symm⟩
   ·exact fun hv=>hv.1
  ·rw[if_neg e,if_neg e];by_cases e2:x=(i:Int)-2
   ·rw[if_pos e2];subst e2;constructor
    ·intro hv;cases hv
    ·rintro⟨a,b⟩;rw[h0] at a;injection a with a
     rcases b with b|b
     ·omega
     ·omega
   ·rw[if_neg e2,h.wt x v];constructor
    ·rintro⟨a,b|b⟩
     ·exact⟨a,.inl ⟨b.1,by omega⟩⟩
     ·exact⟨a,.inr b⟩
    ·rintro⟨a,b|b⟩
     ·exact⟨a,.inl ⟨b.1,by omega⟩⟩
     ·exact⟨a,.inr b⟩
 ·have hb:∀ z,stF S.es z≠none→stF T.es z≠none:=fun z hz hd=>by
   cases hq:stF S.es z with
   |none=>exact hz hq
   |some w=>rw[keep z w hq] at hd;cases hd
  rw[he] at hv;by_cases e:stF S.es x=none∧x∈nearL f s lo hi n sure ((i:Int)-2)
  ·rw[if_pos e] at hv;injection hv with hv
   omega
  ·rw[if_neg e] at hv;by_cases e2:x=(i:Int)-2
   ·subst e2;rw[he];by_cases e3:stF S.es y=none
    ·rw[if_pos ⟨e3,hy⟩];exact fun h=>by cases h
    ·rw[if_neg fun h=>e3 h.1];exact e3
   ·refine hb y (h.cl x v hv ?_ y hy);rcases hc with hc|hc
    ·exact .inl hc
    ·exact .inr ⟨hc.1,by omega⟩
 ·rw[he] at hv;by_cases e:stF S.es x=none∧x∈nearL f s lo hi n sure ((i:Int)-2)
  ·rw[if_pos e] at hv;injection hv with hv
   omega
  ·rw[if_neg e] at hv;exact h.z0 x hv
def BI.round(h:BI f s lo hi n sure q k (n+2) S):BI f s lo hi n sure q (k+1) 0 S:=by
 have ha:=h.k0;refine⟨h.wf,by omega,h.q0,fun x v hv=>?_,fun x v=>?_,fun x v hv hc=>?_,h.z0⟩
 ·obtain⟨a,b⟩:=h.up x v hv;exact⟨by omega,b⟩
 ·rw[h.wt x v];constructor
  ·rintro⟨a,b⟩;have:=(h.up x v a).2.1;refine⟨a,.inl ⟨?_,by omega⟩⟩;rcases b with b|b<;>omega
  ·rintro⟨a,b⟩;have:=(h.up x v a).1;exact⟨a,.inr (by rcases b with b|b<;>omega)⟩
 ·have:=(h.up x v hv).2.1;refine h.cl x v hv ?_;rcases hc with hc|hc
  ·by_cases e:v=k
   ·exact .inr ⟨e,by omega⟩
   ·exact .inl (by omega)
  ·omega
def BI.far(h:BI f s lo hi n sure q k i S):∀ (d:Nat) {x v:Int},stF S.es x=some v→(d:Int)≤v→∃ y,stF S.es y=some (v-d)
 |0,x,v,hv,_=>⟨x,by rw[hv];simp⟩
 |d+1,x,v,hv,hd=>by obtain⟨y,hy⟩:=BI.far h d hv (by omega);obtain⟨_,_,_,e⟩:=h.up y _ hy;obtain⟨z,hz,_⟩:=e (by omega);exact⟨z,by rw[hz];congr 1;omega⟩
def BI.len(h:BI f s lo hi n sure q k i S):S.es.length≤n+2:=stF_len h.wf.w1 fun x hx=>by
 cases hv:stF S.es x with
 |none=>exact absurd hv hx
 |some v=>exact(h.up x v hv).2.1
def BI.small(h:BI f s lo hi n sure q k i S)(ha:S.ew.length≠0):k≤n+1:=by
 have hx:∃ x v,stF S.ew x=some v:=by
  refine yxh fun hc=>ha (z1k.2 fun x=>?_);cases hv:stF S.ew x with
  |none=>rfl
  |some v=>exact absurd ⟨x,v,hv⟩ hc
 obtain⟨x,v,hv⟩:=hx;obtain⟨h1,h2⟩:=(h.wt x v).1 hv;have hg:=h.k0;have hh:k≤v:=by rcases h2 with h2|h2<;>omega
 have hl:=Ox.Two.nodup_le (l:=(List.range (v.toNat+1)).map fun m:Nat=>(m:Int)) (l':=S.es.map fun e=>e.2.1) (List.pairwise_map.2 ((List.nodup_range (n:=v.toNat+1)).imp fun hb e=>hb (by omega))) fun w hw=>by obtain⟨m,hm,rfl⟩:=yy7.1 hw;rw[yy3] at hm;obtain⟨y,hy⟩:=h.far (v.toNat-m) h1 (by omega);obtain⟨e,he,_,hd⟩:=(q5o h.wf.w1).1 hy;rw[yy7];exact⟨e,he,by rw[hd];omega⟩
 rw[yx5,List.length_range,yx5] at hl;have:=h.len;omega
def BI.fin(h:BI f s lo hi n sure q k 0 S)(he:S.ew.length=0):stF S.es x≠none↔Rch f s lo hi n sure q x:=by
 have ha:=z1k.1 he;constructor
 ·intro hx;cases hv:stF S.es x with
  |none=>exact absurd hv hx
  |some v=>exact(h.up x v hv).2.2.1
 ·intro hr;induction hr with
  |here=>rw[h.q0];exact fun h=>by cases h
  |@step y z _ h2 ih=>
   cases hv:stF S.es y with
   |none=>exact absurd hv ih
   |some v=>
    have hb:=h.up y v hv;refine h.cl y v hv ?_ z h2;by_cases e:v<k
    ·exact .inl e
    ·have:=(h.wt y v).2 ⟨hv,by
      by_cases e2:v=k
      ·exact .inl ⟨e2,by omega⟩
      ·exact .inr (by omega)⟩
     rw[ha y] at this;cases this
end Go.Proofs.YtjecebccchhmhaaGreatDoor.Dp
namespace Ox
open Go Go.RowKit
variable {X:Ctx}{L:List (Nat×AV)}{H:List (Nat×HO)}{nx d n clk:Nat}{c1:List Prop}{ty t kid vid:TypeId}{ps:String}{af:Array Edge}{x:Operand}{kt vt:Ty}{es:List (Ent kt vt)}
def z7n(hT:MapT X.P kt vt t kid vid)(hu:opd L x=some (c1,.lf (.mp n)))(hl:lk H n=some (.map kt vt es clk))(hc:allP c1) :
  RdY X ⟨some d,.call {callee:=.builtin .len,args:=#[x],argTypes:=#[t]},ty,ps,af,none⟩ ⟨L,H,nx⟩ (.val (.int .i64) (es.length:Int)):=by
 intro M ρ a w h1 h2;obtain⟨hb,hv⟩:=z5 (s:=⟨L,H,nx⟩) hu hc h2;obtain⟨ms,hh,hm⟩:=q2s h1 hl;have hx:=(w9.1 hv).1;simp only[Leaf.at,yya] at hx;have ha:ms.size=es.length:=by rw[← Array.length_toList];exact hm.length
 refine⟨trivial,.int .i64 es.length,w6.2 rfl,?_⟩;simp[execOp,resolve,invoke,builtin,← hx,Builtin.len_,run_underlying hT.under,goInt,getObj,Sem.run,hh,ha]
end Ox
namespace Go.Proofs.YtjecebccchhmhaaGreatDoor.Dp
open Go Go.RowKit Ox Ox.Gl
attribute [local irreducible] JC JL JK JW
set_option maxRecDepth 20000 in
def mapP:MapT Tryz.prog plT (.int .i64) 146 145 3:=.of (by rfl) (by decide +kernel)
def q7b:mapB Tryz.prog 146=true:=by decide +kernel
variable {f s lo hi:Int}{n:Nat}
abbrev mapOf(es:List EnP)(c:Nat):HO:=.map plT (.int .i64) es c
abbrev pBs(sure:Bool):AV:=.val (.ptr .bool) (some sure)
abbrev LW(f s lo hi:Int)(n:Nat)(p q:Int)(sure:Bool):List (Nat×AV):=[(1,vI p),(2,vI q),(4,ppTb f s lo hi n),(7,pBs sure),(8,.lf .nils),(9,.pfn (.lf (.mp 2))),(10,.pfn (.lf (.mp 3))),(11,.lf (.optr 4 []))]
abbrev HWy(k:Int)(S:MS):List (Nat×HO):=[(4,.cell (.int .i64) (vI k)),(3,mapOf S.ew S.c2),(2,mapOf S.es S.c1)]
abbrev S0(q:Int):MS:=⟨mPut (kt:=plT) (vt:=.int .i64) [] 0 (q,()) (0:Int),mClk (kt:=plT) (vt:=.int .i64) [] 0 ((q,()):plT.den),mPut (kt:=plT) (vt:=.int .i64) [] 0 (q,()) (0:Int),mClk (kt:=plT) (vt:=.int .i64) [] 0 ((q,()):plT.den)⟩
def S0_st{q x:Int}:stF (S0 q).es x=(if x=q then some 0 else none)∧stF (S0 q).ew x=if x=q then some 0 else none:=by
 have e:stF (mPut (kt:=plT) (vt:=.int .i64) [] 0 (q,()) (0:Int)) x=if x=q then some 0 else none:=by rw[z3f MWF.nil];rfl
 exact⟨e,e⟩
def S0_wf:wfM (S0 q):=⟨MWF.nil.put,MWF.nil.put⟩
end Go.Proofs.YtjecebccchhmhaaGreatDoor.Dp
namespace Go.Proofs.YtjecebccchhmhaaGreatDoor.Dp.N1
open Go Go.RowKit Ox Ox.Gl
attribute [local irreducible] JC JL JK JW
variable {f s lo hi:Int}{n:Nat}
abbrev LN(f s lo hi:Int)(n:Nat)(p:Int)(sure:Bool)(lab:Nat):List (Nat×AV):=[(1,ppTb f s lo hi n),(2,pI p),(3,.val (.ptr .bool) (some sure)),(4,.pfn (.lf (.yld lab)))]
abbrev FR(st:LoopState)(a b:Code)(f s lo hi:Int)(n:Nat)(p:Int)(sure:Bool)(lab:Nat)(q:Int):List (Nat×HO):=[(202,.fr 3 [(18,.lf (.yld 200)),(0,.lf (.yld 200)),(1,ppTb f s lo hi n),(3,vI q)]),(201,.fr 2 [(29,.lf (.yld 200)),(1,ppTb f s lo hi n),(2,pI p),(3,.val (.ptr .bool) (some sure)),(4,.pfn (.lf (.yld lab)))]),(200,.loop st none #[17] a b 29 (LN f s lo hi n p sure lab))]
abbrev FQ(a b:Code)(f s lo hi:Int)(n:Nat)(p:Int)(sure:Bool)(lab:Nat):List (Nat×HO):=[(201,.fr 2 [(29,.lf (.yld 200)),(1,ppTb f s lo hi n),(2,pI p),(3,.val (.ptr .bool) (some sure)),(4,.pfn (.lf (.yld lab)))]),(200,.loop .ready none #[17] a b 29 (LN f s lo hi n p sure lab))]
section
variable {st:LoopState}{jmp:Option Code}{a b:Code}{p q:Int}{sure:Bool}{lab m:Nat}{K0:List (Nat×HO)}
def q7f(h:bdH 200 K0)(hm:200≤m):del K0 m=K0:=q8p fun x hx=>by have:=(g8 h x.1 x.2 hx).1;omega
def z0s(h:bdH 200 K0){o:HO}:updH (del (FR .busy a b f s lo hi n p sure lab q++K0) 202) 200 o=(201,.fr 2 [(29,.lf (.yld 200)),(1,ppTb f s lo hi n),(2,pI p),(3,.val (.ptr .bool) (some sure)),(4,.pfn (.lf (.yld lab)))])::(200,o)::K0:=by show(201,_)::(200,_)::del K0 202=_;rw[q7f h (by omega)]
def z2f(h:bdH 200 K0){o:HO}{L:List (Nat×AV)}:del (del ((201,.fr 2 L)::(200,o)::K0) 201) 200=K0:=by show del (del K0 201) 200=K0;rw[q7f h (by omega),q7f h (by omega)]
end
end Go.Proofs.YtjecebccchhmhaaGreatDoor.Dp.N1
namespace Go.Proofs.YtjecebccchhmhaaGreatDoor.Dp
open Go Go.RowKit Ox Ox.Gl
attribute [local irreducible] JC JL JK JW
variable {f s lo hi:Int}{n:Nat}
abbrev HV(st:LoopState)(a b:Code)(f s lo hi:Int)(n:Nat)(p q:Int)(sure:Bool)(k:Int)(S:MS):List (Nat×HO):=(6,.fr 0 ((113,.lf (.yld 5))::LW f s lo hi n p q sure))::(5,.loop st none #[37] a b 113 (LW f s lo hi n p q sure))::HWy k S
variable{k:Int}
def HV_bd{st:LoopState}{sure:Bool}{S:MS}:bdH 7 (HV st a b f s lo hi n p q sure k S):=⟨ltk rfl,y6 ⟨ltk rfl,trivial,trivial,trivial,trivial,trivial,ltk rfl,ltk rfl,ltk rfl,trivial⟩,ltk rfl,s7 ⟨trivial,trivial,trivial,trivial,trivial,ltk rfl,ltk rfl,ltk rfl,trivial⟩,ltk rfl,trivial,ltk rfl,trivial,ltk rfl,trivial,trivial⟩
abbrev LW2:List (Nat×AV):=[(9,.pfn (.lf (.mp 2))),(10,.pfn (.lf (.mp 3))),(11,.lf (.optr 4 []))]
abbrev KW(a b c d:Code)(f s lo hi:Int)(n:Nat)(p q:Int)(sure:Bool)(k:Int)(i:Nat)(S:MS):List (Nat×HO):=(9,.fr 2 ((113,.lf (.yld 8))::LW2))::(8,.loop .ready none #[59] c d 113 LW2)::(7,.fr 1 [(18,.lf (.yld 5)),(0,.lf (.yld 5)),(1,ppTb f s lo hi n),(3,vI ((i:Int)-2))])::HV .busy a b f s lo hi n p q sure k S
def z07{a b c d:Code}{sure:Bool}{S:MS}:bdH 10 (KW a b c d f s lo hi n p q sure k i S):=⟨ltk rfl,y6 ⟨ltk rfl,ltk rfl,ltk rfl,ltk rfl,trivial⟩,ltk rfl,s7 ⟨ltk rfl,ltk rfl,ltk rfl,trivial⟩,ltk rfl,y6 ⟨ltk rfl,ltk rfl,trivial,trivial,trivial⟩,d9 (by omega) HV_bd⟩
def q88{st:LoopState}{z x:Int}{sure:Bool}{K0:List (Nat×HO)}(h:bdH 10 K0):bdH 203 (N2.FR st a b f s lo hi n z sure 8 x++K0):=⟨ltk rfl,y6 ⟨ltk rfl,ltk rfl,trivial,trivial,trivial⟩,ltk rfl,y6 ⟨ltk rfl,trivial,trivial,trivial,ltk rfl,trivial⟩,ltk rfl,s7 ⟨trivial,trivial,trivial,ltk rfl,trivial⟩,d9 (by omega) h⟩
set_option maxRecDepth 20000 in
set_option maxHeartbeats 4000000 in
def way_bfs(h:okB f s lo hi n)(hq:-2≤q∧q<n)(sure:Bool){M0:Mem}{r:List Fr}{QA:Exit→S→Prop}
  (kend:∀ (k:Nat) (S:MS),BI f s lo hi n sure q (k:Int) 0 S→S.ew.length=0→k≤n+2→JK ⟨Tryz.prog,tys,ets,mts,E,M0,Tryz.f42.ntmps,none,up,0⟩ r QA ⟨LW f s lo hi n p q sure,HWy (k:Int) S,5⟩) :
  JK ⟨Tryz.prog,tys,ets,mts,E,M0,Tryz.f42.ntmps,none,up,0⟩ (.code (lpC Tryz.f42.body)::.blk 0::r) QA ⟨LW f s lo hi n p q sure,HWy 0 (S0 q),5⟩:=by
 have h6:=h.n6;refine JK.loop (σ:=Nat×MS) (fun r=>⟨LW f s lo hi n p q sure,HWy (r.1:Int) r.2,5⟩) (fun r=>BI f s lo hi n sure q (r.1:Int) 0 r.2∧r.1≤n+2) (fun r=>n+3-r.1) (0,S0 q) ⟨BI.start hq S0_wf (fun x=>S0_st.1) (fun x=>S0_st.2),yyw _⟩ (JW.refl _) fun⟨k,S⟩ ⟨hB,hk⟩=>?_;dsimp only at hB hk ⊢;have hH:=hB.len;have c70:=fn70 (f:=f) (s:=s) (lo:=lo) (hi:=hi) (n:=n)
 (repeat (first|refine zs rfl ?_|refine zdm q7b rfl rfl ?_))
 refine q1v (z7n mapP rfl rfl trivial) rfl rfl ?_;refine zK0 ?_;refine q9 rfl (fun hc=>?_) (fun hc=>?_)
 ·have hJ:=hB.small (by intro e;have hc:decide ((S.ew.length:Int)>0)=true:=hc;rw[e] at hc;cases hc)
  (repeat (first|refine zs rfl ?_|refine ze rfl (c70) rfl ?_))
  refine q2m [1,2,4,7,8,9,10,11] rfl rfl Tryz.func141 rfl Tryz.call141 (yyd rfl) trivial fun M3 up3 a1 b1 hg hj=>?_;refine zK0 ?_;refine JK.loop (σ:=Nat×MS) (fun r=>⟨[(0,.lf (.yld 5)),(1,ppTb f s lo hi n),(3,vI ((r.1:Int)-2))],HV .ready a1 b1 f s lo hi n p q sure (k:Int) r.2,7⟩) (fun r=>BI f s lo hi n sure q (k:Int) r.1 r.2∧r.1≤n+2) (fun r=>n+2-r.1) (0,S) ⟨hB,yyw _⟩ (JW.same ⟨rfl,rfl,rfl,trivial⟩) fun⟨i,T⟩ ⟨ha,hu⟩=>?_;dsimp only at ha hu ⊢;refine zK0 ?_;refine q9 rfl (fun hd=>?_) (fun hd=>?_)
  ·have hd:(i:Int)-2<(spS f s n).length:=of_decide_eq_true hd;rw[q09] at hd;refine zK0 ?_;refine q2l [0,1,3] rfl rfl rfl rfl rfl rfl trivial fun M4 up4 bl hv=>JK.start (v9 hg ?_);refine zK0 ?_;refine k7 (q0f rfl rfl rfl rfl (JK.start (v9 hj ?_)))
   (repeat (first|refine zs rfl ?_|refine zg rfl rfl rfl ?_|refine zmo mapP rfl rfl rfl rfl ?_|refine zdm q7b rfl rfl ?_))
   refine q9 rfl (fun he=>?_) (fun he=>?_)
   ·have he:(bif !mHas T.ew (((i:Int)-2,()):plT.den) then true else mGet T.ew (((i:Int)-2,()):plT.den) (0:Int) != (k:Int))=true:=he;have hy:=ha.skip (fun hw=>by
     unfold stF at hw;by_cases hh:mHas T.ew (((i:Int)-2,()):plT.den)=true
     ·rw[if_pos hh] at hw;injection hw with hw
      rw[hh,hw] at he;simp at he
     ·rw[if_neg hh] at hw;cases hw)
    refine zK0 ?_;refine k7 (bodyQ.of rfl rfl rfl rfl rfl rfl ?_);show JK _ _ _ ⟨[(16,vB true),(0,.lf (.yld 5)),(1,ppTb f s lo hi n),(3,vI ((i:Int)-2))],HV .ready a1 b1 f s lo hi n p q sure (k:Int) T,8⟩;refine zK0 ?_;refine q9 rfl (fun h=>absurd h (by decide)) (fun _=>?_);refine zK0 ?_;exact⟨(i+1,T),JW.low ⟨rfl,rfl,by show some (vI ((i:Int)-2+1))=some (vI (((i+1:Nat):Int)-2));rw[show(i:Int)-2+1=((i+1:Nat):Int)-2 by omega],trivial⟩ (subH.refl _) ⟨ltk rfl,trivial,trivial,trivial⟩ HV_bd,⟨hy,by dsimp only;omega⟩,by dsimp only;omega⟩
   ·have he:(bif !mHas T.ew (((i:Int)-2,()):plT.den) then true else mGet T.ew (((i:Int)-2,()):plT.den) (0:Int) != (k:Int))=false:=he;have hA:stF T.ew ((i:Int)-2)=some (k:Int):=by
     unfold stF;by_cases hh:mHas T.ew (((i:Int)-2,()):plT.den)=true
     ·rw[if_pos hh];rw[hh] at he;simpa using he
     ·simp[hh] at he
    have hC:=ha.proc hA;have c71:=fn71 (f:=f) (s:=s) (lo:=lo) (hi:=hi) (n:=n) ((i:Int)-2) sure
    (repeat (first|refine zs rfl ?_|refine zmd mapP rfl rfl rfl ?_|refine zdm q7b rfl rfl ?_|refine ze rfl (c71) rfl ?_))
    refine z2y [9,10,11] (lf:=7) (lab0:=5) rfl hv rfl rfl rfl rfl Tryz.func142 rfl Tryz.call142 (yyd rfl) trivial fun M6 up6 a2 b2 hD hE=>?_;refine u9 (s':=⟨[(0,.lf (.yld 8)),(1,ppTb f s lo hi n),(2,pI ((i:Int)-2)),(3,.val (.ptr .bool) (some sure))],KW a1 b1 a2 b2 f s lo hi n p q sure (k:Int) i (addM (k:Int) ⟨T.es,T.c1,mDel T.ew (((i:Int)-2,()):plT.den),T.c2⟩ []),200⟩) (JW.low ⟨rfl,rfl,rfl,rfl,trivial⟩ (subH.refl _) ⟨ltk rfl,trivial,trivial,trivial,trivial⟩ (d9 (by omega) z07)) ?_;refine N2.near_in h sure (p:=(i:Int)-2) (by omega) (fun _=>false) (fun pre=>KW a1 b1 a2 b2 f s lo hi n p q sure (k:Int) i (addM (k:Int) ⟨T.es,T.c1,mDel T.ew (((i:Int)-2,()):plT.den),T.c2⟩ pre)) (fun _=>[]) (ltk rfl) (fun pre=>d9 (by omega) z07) (fun _=>trivial) (fun pre=>⟨rfl,rfl⟩) (fun q=>⟨rfl,rfl⟩) ?_ ?_ ?_
    ·intro pre x post hK hx M7 rd7 up7 a3 b3;refine YI.intro (ps:=#[59]) (assign:=a2) (body:=b2) (nO:=113) (LO:=LW2) (L0:=(59,vI x)::LW2) rfl rfl rfl fun Lf M8 up8 bl8 hLf hF=>JK.start (v9 hD ?_);refine zK0 ?_;refine k7 (q0f rfl rfl rfl rfl (JK.start (v9 hE ?_)));have hb:=j2c (k:Int) ⟨T.es,T.c1,mDel T.ew (((i:Int)-2,()):plT.den),T.c2⟩ pre x;generalize addM (k:Int) ⟨T.es,T.c1,mDel T.ew (((i:Int)-2,()):plT.den),T.c2⟩ pre=U at hb ⊢;dsimp only;rw[cond_false,hb];unfold stepM
     (repeat (first|refine zs rfl ?_|refine zmo mapP rfl rfl rfl rfl ?_|refine zdm q7b rfl rfl ?_))
     refine q9 rfl (fun hz=>?_) (fun hz=>?_)
     ·have hz:(!mHas U.es ((x,()):plT.den))=true:=hz;have hh:¬ mHas U.es ((x,()):plT.den)=true:=by simpa using hz
      rw[if_neg hh];refine zK2 ?_;refine q01 xk (Tryz.f42.body.getD .skip) rfl 12 rfl ?_
      (refine q7 1 xk rfl rfl (q7 4 xk rfl rfl (z6 6 xk rfl rfl (z6 7 xk rfl rfl (z6 8 xk rfl rfl (z6 9 xk rfl rfl ?_)))));refine j0 0 [2,3,5] xk ?_ ?_;exact zS;refine(BrF.one rfl rfl ?_ (BrF.one rfl rfl ?_ (BrF.one rfl rfl ?_ (BrF.one rfl rfl ?_ BrF.nil))));(· refine zK1 ?_;refine q8 ?_;refine j0 2 [3,5] xk ?_ ?_;exact zS;refine(BrF.one rfl rfl ?_ (BrF.one rfl rfl ?_ (BrF.one rfl rfl ?_ BrF.nil)));(· refine zK1 ?_;refine q8 ?_;refine j0 3 [5,10] xk ?_ ?_;exact zS;refine(BrF.one rfl rfl ?_ (BrF.one rfl rfl ?_ (BrF.one rfl rfl ?_ BrF.nil)));(· refine zK1 ?_;refine q8 ?_;refine j0 5 [10] xk ?_ ?_;exact zS;refine(BrF.one rfl rfl ?_ (BrF.one rfl rfl ?_ BrF.nil));(· refine zK1 ?_;refine q8 ?_;refine zU 10 xk rfl rfl ?_;refine zK1 ?_;refine q8 ?_;refine zU 11 xk rfl rfl ?_;refine zK1 ?_;refine q8 ?_;refine v7 xk StF.nil ?_;((refine zK0 ?_;refine k7 (bodyQ.of rfl rfl rfl rfl rfl rfl ⟨rfl,?_,rfl⟩);exact q1u (swL 2 2) (B:=0) (fun l hl=>absurd hl (Nat.not_lt_zero _)) (q0u hLf) (yyw _) ⟨rfl,rfl,rfl,rfl,rfl,rfl,rfl,rfl,rfl,rfl,rfl,trivial⟩ (q88 z07) rfl)));(· refine zK1 ?_;refine q8 ?_;refine zU 5 xk rfl rfl ?_;refine zK1 ?_;refine q8 ?_;refine zU 11 xk rfl rfl ?_;exact zB0));(· refine zK1 ?_;refine q8 ?_;refine j0 3 [10] xk ?_ ?_;exact zS;refine(BrF.one rfl rfl ?_ (BrF.one rfl rfl ?_ BrF.nil));(· refine zK1 ?_;refine q8 ?_;refine zU 10 xk rfl rfl ?_;refine zK1 ?_;refine q8 ?_;refine zU 11 xk rfl rfl ?_;exact zB0);(· refine zK1 ?_;refine q8 ?_;refine zU 3 xk rfl rfl ?_;refine zK1 ?_;refine q8 ?_;refine zU 11 xk rfl rfl ?_;exact zB0));(· refine zK1 ?_;refine q8 ?_;refine j0 3 [5] xk ?_ ?_;exact zS;refine(BrF.one rfl rfl ?_ (BrF.one rfl rfl ?_ BrF.nil));(· refine zK1 ?_;refine q8 ?_;refine zU 5 xk rfl rfl ?_;refine zK1 ?_;refine q8 ?_;refine zU 11 xk rfl rfl ?_;exact zB0);(· refine zK1 ?_;refine q8 ?_;refine zU 3 xk rfl rfl ?_;exact zB5)));(· refine zK1 ?_;refine q8 ?_;refine j0 2 [5] xk ?_ ?_;exact zS;refine(BrF.one rfl rfl ?_ (BrF.one rfl rfl ?_ BrF.nil));(· refine zK1 ?_;refine q8 ?_;refine j0 5 [10] xk ?_ ?_;exact zS;refine(BrF.one rfl rfl ?_ (BrF.one rfl rfl ?_ BrF.nil));(· refine zK1 ?_;refine q8 ?_;refine zU 10 xk rfl rfl ?_;exact zB3);exact zB7);(· refine zK1 ?_;refine q8 ?_;refine zU 2 xk rfl rfl ?_;exact zB8));(· refine zK1 ?_;refine q8 ?_;refine j0 2 [3] xk ?_ ?_;exact zS;refine(BrF.one rfl rfl ?_ (BrF.one rfl rfl ?_ BrF.nil));(· refine zK1 ?_;refine q8 ?_;refine j0 3 [10] xk ?_ ?_;exact zS;refine(BrF.one rfl rfl ?_ (BrF.one rfl rfl ?_ BrF.nil));(· refine zK1 ?_;refine q8 ?_;refine zU 10 xk rfl rfl ?_;exact zB3);exact zB6);(· refine zK1 ?_;refine q8 ?_;refine zU 2 xk rfl rfl ?_;exact zB8)));(· refine zK1 ?_;refine q8 ?_;refine j0 0 [3,5] xk ?_ ?_;exact zS;refine(BrF.one rfl rfl ?_ (BrF.one rfl rfl ?_ (BrF.one rfl rfl ?_ BrF.nil)));(· refine zK1 ?_;refine q8 ?_;refine j0 3 [5,10] xk ?_ ?_;exact zS;refine(BrF.one rfl rfl ?_ (BrF.one rfl rfl ?_ (BrF.one rfl rfl ?_ BrF.nil)));(· refine zK1 ?_;refine q8 ?_;refine j0 5 [10] xk ?_ ?_;exact zS;refine(BrF.one rfl rfl ?_ (BrF.one rfl rfl ?_ BrF.nil));exact zB4;exact zB7);(· refine zK1 ?_;refine q8 ?_;refine j0 3 [10] xk ?_ ?_;exact zS;refine(BrF.one rfl rfl ?_ (BrF.one rfl rfl ?_ BrF.nil));(· refine zK1 ?_;refine q8 ?_;refine zU 10 xk rfl rfl ?_;exact zB5);(· refine zK1 ?_;refine q8 ?_;refine zU 3 xk rfl rfl ?_;exact zB5));(· refine zK1 ?_;refine q8 ?_;refine j0 3 [5] xk ?_ ?_;exact zS;refine(BrF.one rfl rfl ?_ (BrF.one rfl rfl ?_ BrF.nil));(· refine zK1 ?_;refine q8 ?_;refine zU 5 xk rfl rfl ?_;refine zK1 ?_;refine q8 ?_;refine zU 11 xk rfl rfl ?_;exact zB0);(· refine zK1 ?_;refine q8 ?_;refine zU 3 xk rfl rfl ?_;exact zB5)));(· refine zK1 ?_;refine q8 ?_;refine j0 0 [5] xk ?_ ?_;exact zS;refine(BrF.one rfl rfl ?_ (BrF.one rfl rfl ?_ BrF.nil));(· refine zK1 ?_;refine q8 ?_;refine j0 5 [10] xk ?_ ?_;exact zS;refine(BrF.one rfl rfl ?_ (BrF.one rfl rfl ?_ BrF.nil));(· refine zK1 ?_;refine q8 ?_;refine zU 10 xk rfl rfl ?_;exact zB5);(· refine zK1 ?_;refine q8 ?_;refine zU 5 xk rfl rfl ?_;exact zB3));(· refine zK1 ?_;refine q8 ?_;refine zU 0 xk rfl rfl ?_;refine zK1 ?_;refine q8 ?_;refine zU 10 xk rfl rfl ?_;refine zK1 ?_;refine q8 ?_;refine zU 11 xk rfl rfl ?_;refine zK1 ?_;refine q8 ?_;refine v7 xk StF.nil ?_;((refine zK0 ?_;refine k7 (bodyQ.of rfl rfl rfl rfl rfl rfl ⟨rfl,?_,rfl⟩);exact q1u (swL 2 2) (B:=0) (fun l hl=>absurd hl (Nat.not_lt_zero _)) (q0u hLf) (yyw _) ⟨rfl,rfl,rfl,rfl,rfl,rfl,rfl,rfl,rfl,rfl,rfl,trivial⟩ (q88 z07) rfl))));(· refine zK1 ?_;refine q8 ?_;refine j0 0 [3] xk ?_ ?_;exact zS;refine(BrF.one rfl rfl ?_ (BrF.one rfl rfl ?_ BrF.nil));(· refine zK1 ?_;refine q8 ?_;refine j0 3 [10] xk ?_ ?_;exact zS;refine(BrF.one rfl rfl ?_ (BrF.one rfl rfl ?_ BrF.nil));exact zB4;(· refine zK1 ?_;refine q8 ?_;refine zU 3 xk rfl rfl ?_;refine zK1 ?_;refine q8 ?_;refine zU 11 xk rfl rfl ?_;exact zB0));(· refine zK1 ?_;refine q8 ?_;refine zU 0 xk rfl rfl ?_;refine zK1 ?_;refine q8 ?_;refine zU 10 xk rfl rfl ?_;exact zB5)));(· refine zK1 ?_;refine q8 ?_;refine j0 0 [2,5] xk ?_ ?_;exact zS;refine(BrF.one rfl rfl ?_ (BrF.one rfl rfl ?_ (BrF.one rfl rfl ?_ BrF.nil)));(· refine zK1 ?_;refine q8 ?_;refine j0 2 [5] xk ?_ ?_;exact zS;refine(BrF.one rfl rfl ?_ (BrF.one rfl rfl ?_ BrF.nil));(· refine zK1 ?_;refine q8 ?_;refine j0 5 [10] xk ?_ ?_;exact zS;refine(BrF.one rfl rfl ?_ (BrF.one rfl rfl ?_ BrF.nil));exact zB4;(· refine zK1 ?_;refine q8 ?_;refine zU 5 xk rfl rfl ?_;exact zB5));(· refine zK1 ?_;refine q8 ?_;refine zU 2 xk rfl rfl ?_;exact zB4));(· refine zK1 ?_;refine q8 ?_;refine j0 0 [5] xk ?_ ?_;exact zS;refine(BrF.one rfl rfl ?_ (BrF.one rfl rfl ?_ BrF.nil));(· refine zK1 ?_;refine q8 ?_;refine j0 5 [10] xk ?_ ?_;exact zS;refine(BrF.one rfl rfl ?_ (BrF.one rfl rfl ?_ BrF.nil));exact zB8;(· refine zK1 ?_;refine q8 ?_;refine zU 5 xk rfl rfl ?_;exact zB5));(· refine zK1 ?_;refine q8 ?_;refine zU 0 xk rfl rfl ?_;exact zB4));(· refine zK1 ?_;refine q8 ?_;refine j0 0 [2] xk ?_ ?_;exact zS;refine(BrF.one rfl rfl ?_ (BrF.one rfl rfl ?_ BrF.nil));(· refine zK1 ?_;refine q8 ?_;refine zU 2 xk rfl rfl ?_;refine zK1 ?_;refine q8 ?_;refine zU 10 xk rfl rfl ?_;refine zK1 ?_;refine q8 ?_;refine zU 11 xk rfl rfl ?_;refine zK1 ?_;refine q8 ?_;refine v7 xk StF.nil ?_;((refine zK0 ?_;refine k7 (bodyQ.of rfl rfl rfl rfl rfl rfl ⟨rfl,?_,rfl⟩);exact q1u (swL 2 2) (B:=0) (fun l hl=>absurd hl (Nat.not_lt_zero _)) (q0u hLf) (yyw _) ⟨rfl,rfl,rfl,rfl,rfl,rfl,rfl,rfl,rfl,rfl,rfl,trivial⟩ (q88 z07) rfl)));(· refine zK1 ?_;refine q8 ?_;refine zU 0 xk rfl rfl ?_;refine zK1 ?_;refine q8 ?_;refine zU 10 xk rfl rfl ?_;exact zB3)));(· refine zK1 ?_;refine q8 ?_;refine j0 0 [2,3] xk ?_ ?_;exact zS;refine(BrF.one rfl rfl ?_ (BrF.one rfl rfl ?_ (BrF.one rfl rfl ?_ BrF.nil)));(· refine zK1 ?_;refine q8 ?_;refine j0 2 [3] xk ?_ ?_;exact zS;refine(BrF.one rfl rfl ?_ (BrF.one rfl rfl ?_ BrF.nil));(· refine zK1 ?_;refine q8 ?_;refine j0 3 [10] xk ?_ ?_;exact zS;refine(BrF.one rfl rfl ?_ (BrF.one rfl rfl ?_ BrF.nil));(· refine zK1 ?_;refine q8 ?_;refine zU 10 xk rfl rfl ?_;refine zK1 ?_;refine q8 ?_;refine zU 11 xk rfl rfl ?_;refine zK1 ?_;refine q8 ?_;refine v7 xk StF.nil ?_;((refine zK0 ?_;refine k7 (bodyQ.of rfl rfl rfl rfl rfl rfl ⟨rfl,?_,rfl⟩);exact q1u (swL 2 2) (B:=0) (fun l hl=>absurd hl (Nat.not_lt_zero _)) (q0u hLf) (yyw _) ⟨rfl,rfl,rfl,rfl,rfl,rfl,rfl,rfl,rfl,rfl,rfl,trivial⟩ (q88 z07) rfl)));exact zB6);(· refine zK1 ?_;refine q8 ?_;refine zU 2 xk rfl rfl ?_;refine zK1 ?_;refine q8 ?_;refine zU 10 xk rfl rfl ?_;refine zK1 ?_;refine q8 ?_;refine zU 11 xk rfl rfl ?_;exact zB0));(· refine zK1 ?_;refine q8 ?_;refine j0 0 [3] xk ?_ ?_;exact zS;refine(BrF.one rfl rfl ?_ (BrF.one rfl rfl ?_ BrF.nil));(· refine zK1 ?_;refine q8 ?_;refine j0 3 [10] xk ?_ ?_;exact zS;refine(BrF.one rfl rfl ?_ (BrF.one rfl rfl ?_ BrF.nil));exact zB4;(· refine zK1 ?_;refine q8 ?_;refine zU 3 xk rfl rfl ?_;exact zB5));(· refine zK1 ?_;refine q8 ?_;refine zU 0 xk rfl rfl ?_;exact zB4));(· refine zK1 ?_;refine q8 ?_;refine j0 0 [2] xk ?_ ?_;exact zS;refine(BrF.one rfl rfl ?_ (BrF.one rfl rfl ?_ BrF.nil));(· refine zK1 ?_;refine q8 ?_;refine zU 2 xk rfl rfl ?_;refine zK1 ?_;refine q8 ?_;refine zU 10 xk rfl rfl ?_;exact zB5);(· refine zK1 ?_;refine q8 ?_;refine zU 0 xk rfl rfl ?_;exact zB4))))
     ·have hz:(!mHas U.es ((x,()):plT.den))=false:=hz;have hh:mHas U.es ((x,()):plT.den)=true:=by simpa using hz
      rw[if_pos hh];refine zK0 ?_;refine k7 (bodyQ.of rfl rfl rfl rfl rfl rfl ⟨rfl,?_,rfl⟩);exact q1u (swL 2 2) (B:=0) (fun l hl=>absurd hl (Nat.not_lt_zero _)) (q0u hLf) (yyw _) ⟨rfl,rfl,rfl,rfl,rfl,rfl,rfl,rfl,rfl,rfl,rfl,trivial⟩ (q88 z07) rfl
    ·intro hst e L m hm hG;refine rngQ.of hG rfl rfl rfl rfl rfl rfl rfl (q18 ?_);refine zK0 ?_;refine k7 (bodyQ.of rfl rfl rfl rfl rfl rfl ?_);show JK _ _ _ ⟨[(16,vB true),(0,.lf (.yld 5)),(1,ppTb f s lo hi n),(3,vI ((i:Int)-2))],HV .ready a1 b1 f s lo hi n p q sure (k:Int) (addM (k:Int) ⟨T.es,T.c1,mDel T.ew (((i:Int)-2,()):plT.den),T.c2⟩ (nearL f s lo hi n sure ((i:Int)-2))),m⟩;refine zK0 ?_;refine q9 rfl (fun h=>absurd h (by decide)) (fun _=>?_);refine zK0 ?_;exact⟨(i+1,addM (k:Int) ⟨T.es,T.c1,mDel T.ew (((i:Int)-2,()):plT.den),T.c2⟩ (nearL f s lo hi n sure ((i:Int)-2))),JW.low ⟨rfl,rfl,by show some (vI ((i:Int)-2+1))=some (vI (((i+1:Nat):Int)-2));rw[show(i:Int)-2+1=((i+1:Nat):Int)-2 by omega],trivial⟩ (subH.refl _) ⟨ltk rfl,trivial,trivial,trivial⟩ HV_bd,⟨hC,by dsimp only;omega⟩,by dsimp only;omega⟩
    ·intro q hq hs;cases hs
  ·have hd:¬ (i:Int)-2<(spS f s n).length:=of_decide_eq_false hd;rw[q09] at hd;obtain rfl:i=n+2:=by omega
   have hR:=ha.round;refine zK0 ?_;refine k7 (rngQ.of (.inr rfl) rfl rfl rfl rfl rfl rfl rfl (q18 ?_));refine zK0 ?_;refine⟨(k+1,T),JW.of (swL 4 7) ⟨rfl,rfl,rfl,rfl,rfl,rfl,rfl,rfl,trivial⟩ ⟨rfl,rfl,rfl,trivial⟩ ⟨trivial,trivial,trivial,trivial,trivial,ltk rfl,ltk rfl,ltk rfl,trivial⟩ ⟨ltk rfl,trivial,ltk rfl,trivial,ltk rfl,trivial,trivial⟩ rfl,⟨?_,by dsimp only;omega⟩,by dsimp only;omega⟩;show BI f s lo hi n sure q (((k+1:Nat):Int)) 0 T;rw[show((k+1:Nat):Int)=(k:Int)+1 by omega];exact hR
 ·have he:S.ew.length=0:=by have hc:¬ (S.ew.length:Int)>0:=of_decide_eq_false hc;omega
  refine u9 (s':=⟨LW f s lo hi n p q sure,HWy (k:Int) S,5⟩) (JW.same ⟨rfl,rfl,rfl,rfl,rfl,rfl,rfl,rfl,trivial⟩) ?_;refine zK0 ?_;exact kend k S hB he hk
end Go.Proofs.YtjecebccchhmhaaGreatDoor.Dp
namespace Go.Proofs.YtjecebccchhmhaaGreatDoor.Dp
open Go Go.RowKit Ox Ox.Gl
variable {f s lo hi:Int}{n:Nat}{sure:Bool}{p q r:Int}
def j0w:holdB f s lo hi sure p q=holdB f s lo hi sure q p:=by
 unfold holdB kdI;rw[q93 f s lo p q,q93 f s hi p q];by_cases e:p=q
 ·subst e;rfl
 ·rw[if_neg e,if_neg (Ne.symm e)]
def z5d(h:-2≤q∧q<n)(hr:r∈nearL f s lo hi n sure q):q∈nearL f s lo hi n sure r:=by have:=q10.1 hr;exact q10.2 ⟨h,by rw[j0w];exact this.2⟩
def Rch.rg(hp:-2≤p∧p<n)(h:Rch f s lo hi n sure p q):-2≤q∧q<n:=by
 cases h with
 |here=>exact hp
 |step _ h2=>exact(q10.1 h2).1
def Rch.trans(h:Rch f s lo hi n sure p q)(h2:Rch f s lo hi n sure q r):Rch f s lo hi n sure p r:=by
 induction h2 with
 |here=>exact h
 |step _ h3 ih=>exact .step ih h3
def Rch.sym(hp:-2≤p∧p<n)(h:Rch f s lo hi n sure p q):Rch f s lo hi n sure q p:=by
 induction h with
 |here=>exact .here
 |step h1 h2 ih=>exact .trans (.step .here (z5d (h1.rg hp) h2)) ih
variable{a b k:Int}
def z8d(h:a≤b)(ht:tchB f s a p q=true):tchB f s b p q=true:=by
 unfold tchB tchW at ht ⊢;split at ht
 ·rename_i h1;rw[if_pos h1];split at ht
  ·cases ht
  ·rename_i h2;rw[if_neg h2];split at ht
   ·rename_i h3;rw[if_pos h3];have:=of_decide_eq_true ht;exact decide_eq_true (by omega)
   ·rename_i h3;rw[if_neg h3];have:=of_decide_eq_true ht;exact decide_eq_true (by omega)
 ·rename_i h1;rw[if_neg h1];split at ht
  ·rename_i h2;rw[if_pos h2];split at ht
   ·rename_i h3;rw[if_pos h3];have:=of_decide_eq_true ht;exact decide_eq_true (by omega)
   ·rename_i h3;rw[if_neg h3];have:=of_decide_eq_true ht;exact decide_eq_true (by omega)
  ·rename_i h2;rw[if_neg h2];have:=of_decide_eq_true ht;exact decide_eq_true (by omega)
def spr(lo hi:Int)(sure:Bool):Int:=bif sure then lo else hi
def z5v(hl:lo≤hi):holdB f s lo hi sure p q=true↔p≠q∧tchB f s (spr lo hi sure) p q=true:=by
 unfold holdB kdI spr;by_cases e:p=q
 ·cases sure<;>simp[e]
 ·rw[if_neg e];by_cases h1:tchB f s lo p q=true
  ·have h2:=z8d hl h1;cases sure<;>simp[h1,h2,e]
  ·by_cases h2:tchB f s hi p q=true
   ·cases sure<;>simp[h1,h2,e]
   ·cases sure<;>simp[h1,h2,e]
def z8c(hk:1≤k):tchB f s a (k-1) k=decide (s*s≤4*a):=by
 unfold tchB;rw[if_neg (by omega),if_neg (by omega)];have:(f+(k-1)*s)-(f+k*s)=-s:=by rw[Int.sub_mul];omega
 rw[this,Int.neg_mul_neg]
def wantI(s lo hi:Int):Int:=if s*s≤4*lo then 2 else if s*s≤4*hi then 1 else 0
def kd_nb(hk:1≤k):kdI f s lo hi (k-1) k=wantI s lo hi:=by unfold kdI wantI;rw[if_neg (by omega),z8c hk,z8c hk];simp only[yyu]
def spr_bd(h:okB f s lo hi n):1≤spr lo hi sure∧spr lo hi sure≤10000:=by have:=h.l1;have:=h.l2;have:=h.l3;cases sure<;>(unfold spr;dsimp only[cond];omega)
def rch_up(h:okB f s lo hi n)(ht:s*s≤4*spr lo hi sure):∀ k:Nat,k<n→Rch f s lo hi n sure 0 k
 |0,_=>.here
 |k+1,hk=>by refine .step (rch_up h ht k (by omega)) (q10.2 ⟨by omega,(z5v h.l2).2 ⟨by omega,?_⟩⟩);have:=z8c (f:=f) (s:=s) (a:=spr lo hi sure) (k:=((k+1:Nat):Int)) (by omega);rw[show((k+1:Nat):Int)-1=(k:Int) by omega] at this;rw[this];exact decide_eq_true ht
def sq_le(h0:0≤a)(h:a≤b):a*a≤b*b:=Int.mul_le_mul h h h0 (by omega)
def rch_no(h:okB f s lo hi n)(ht:¬ s*s≤4*spr lo hi sure)(hr:Rch f s lo hi n sure 0 q):q=0∨q=-1:=by
 have ha:=spr_bd (sure:=sure) h;have hb:=h.s1;have hg:=h.f1;have hh:=h.f2;generalize hA:spr lo hi sure=a at ht ha;induction hr with
 |here=>exact .inl rfl
 |@step x y _ h2 ih=>
  obtain⟨h3,h4⟩:=q10.1 h2;obtain⟨h5,h6⟩:=(z5v h.l2).1 h4;rw[hA] at h6;rcases ih with rfl|rfl
  ·by_cases hy:y<0
   ·by_cases hd:y=-2
    ·subst hd;unfold tchB tchW at h6;rw[if_neg (by omega),if_pos (by omega),if_pos rfl] at h6;have h7:=of_decide_eq_true h6;have h8:(900:Int)*900≤(1000-(f+0*s))*(1000-(f+0*s)):=sq_le (by omega) (by omega);omega
    ·exact .inr (by omega)
   ·unfold tchB at h6;rw[if_neg (by omega),if_neg hy] at h6;have h7:=of_decide_eq_true h6;rw[show(f+0*s)-(f+y*s)=-(y*s) by omega,Int.neg_mul_neg] at h7;have h8:1*s≤y*s:=Int.mul_le_mul_of_nonneg_right (by omega) (by omega);have h9:s*s≤(y*s)*(y*s):=sq_le (by omega) (by omega);omega
  ·unfold tchB at h6;rw[if_pos (by omega)] at h6;by_cases hy:y<0
   ·rw[if_pos hy] at h6;cases h6
   ·rw[if_neg hy] at h6;unfold tchW at h6;rw[if_neg (by omega)] at h6;by_cases he:y=0
    ·exact .inl he
    ·have h7:=of_decide_eq_true h6;have h8:1*s≤y*s:=Int.mul_le_mul_of_nonneg_right (by omega) (by omega);have h9:s*s≤(f+y*s)*(f+y*s):=sq_le (by omega) (by omega);have hj:1*1≤s*s:=sq_le (by omega) hb;omega
def z43(h:okB f s lo hi n):Rch f s lo hi n sure 0 ((n:Int)-1)↔s*s≤4*spr lo hi sure:=by
 have h2:=h.n2;constructor
 ·intro hr;refine yxh fun ht=>?_;have:=rch_no h ht hr;omega
 ·intro ht;have:=rch_up h ht (n-1) (by omega);rwa[show((n-1:Nat):Int)=(n:Int)-1 by omega] at this
def want_hi(hl:lo≤hi):wantI s lo hi=2↔s*s≤4*spr lo hi true:=by
 unfold wantI spr;dsimp only[cond];by_cases h1:s*s≤4*lo
 ·simp[h1]
 ·by_cases h2:s*s≤4*hi<;>simp[h1,h2]
def want_lo(hl:lo≤hi):wantI s lo hi≠0↔s*s≤4*spr lo hi false:=by
 unfold wantI spr;dsimp only[cond];by_cases h1:s*s≤4*lo
 ·have:s*s≤4*hi:=by omega
  simp[h1,this]
 ·by_cases h2:s*s≤4*hi<;>simp[h1,h2]
end Go.Proofs.YtjecebccchhmhaaGreatDoor.Dp
namespace Ox
open Go Go.RowKit
variable {X:Ctx}{s:S}{M:Mem}{ρ:Env}{a:Act}{w:World}{QA:Exit→S→Prop}{all l:List Oper}{o:Oper}
def ResW(P:Program)(rs:List ResultVar)(s':S)(r:AV):Prop:=∀ (X:Ctx) M ρ a w (fn:Func),X.P=P→fn.results.toList=rs→SAT X M ρ s' w→REG X M ρ s' a→r.bd s'.nx∧∃ v,r.rv M ρ v∧(results fn a.tmps).run P w=.ok v w
def ResW.cell{P:Program}{d m:Nat}{t:Ty}{id:TypeId}{x:t.den}{L:List (Nat×AV)}{H:List (Nat×HO)}{nx:Nat}(hT:TyOf P t id)(hd:lk L d=some (.lf (.optr m [])))(hm:lk H m=some (.cell t (.val t x))):ResW P [.cell d id] ⟨L,H,nx⟩ (.val t x):=by
 intro X M ρ a w fn hP hf h1 h2;subst hP;refine⟨trivial,?_⟩;have e0:=(w9.1 (h2.reg d _ hd).2).1;simp only[Leaf.at,yya,q1a] at e0;obtain⟨_,_,_,_,_,c,ty,hh,hr⟩:=h1.own m _ hm;have hs:=Rep.length hr;have ha:=f8 hT hh (off:=0) (by simp at hs;omega);rw[List.drop_zero,← hs,yx6] at ha;refine⟨t.wrap c.toList,by simp only[AV.rv];exact⟨_,hr,rfl⟩,?_⟩;have hb:(fn.results.toList.mapM (resOne a.tmps)).run X.P w=.ok [t.wrap c.toList] w:=by rw[hf];simp only[List.mapM_cons,List.mapM_nil,resOne,yye,← e0,asAddr,yyf,yyb,ha]
 simpa using q2r hb
def inlW(X:Ctx)(rs:List ResultVar)(k:AV→List (Nat×AV)→List (Nat×HO)→Nat→Prop)(e:Exit)(s':S):Prop:=(e=.ret∨e=.normal)∧∃ l' L' r,lk s'.H l'=some (.fr X.dp L')∧ResW X.P rs s' r∧noFr X.dp (del s'.H l')=true∧k r L' (del s'.H l') s'.nx
def inlW.ret{rs:List ResultVar}{k:AV→List (Nat×AV)→List (Nat×HO)→Nat→Prop}{L L':List (Nat×AV)}{H:List (Nat×HO)}{nx l':Nat}{r:AV}(h0:frAt H X.dp=some l')(h1:lk H l'=some (.fr X.dp L'))(h2:ResW X.P rs ⟨L,H,nx⟩ r)
  (h3:noFr X.dp (del H l')=true) (h:k r L' (del H l') nx):inlW X rs k .ret ⟨L,H,nx⟩:=⟨.inl rfl,l',L',r,h1,h2,h3,h⟩
def z7e{fn:Func}{c:Code}{args:AV}{vs:List Value}{Lf:List (Nat×AV)}{u:Nat→Value}{k:AV→List (Nat×AV)→List (Nat×HO)→Nat→Prop}{R:Ending→World→Prop}(hf:X.P.funcs[f]?=some fn)(hb:fn.body=some c)(hn:argN args≤fn.ntmps)
  (h1:SAT X M ρ s w) (hj:args.bd s.nx) (hk:args.rvs M ρ vs) (hu:∀ p∈Lf,p.2.bd s.nx) (hv:∀ d v,lk Lf d=some v→v.rv M ρ (u d))
  (h:∀ M0 up,JC (X.sub M0 fn.ntmps none up) c (inlW X fn.results.toList k) ⟨argL args 0,(s.nx,.fr X.dp Lf)::s.H,s.nx+1⟩)
  (hR:∀ M' ρ' s' l' L' r v w',SAT (X.sub M fn.ntmps none (upd1 X.up X.dp u)) M' ρ' s' w'→lk s'.H l'=some (.fr X.dp L')→noFr X.dp (del s'.H l')=true→k r L' (del s'.H l') s'.nx→r.bd s'.nx→r.rv M' ρ' v→R (.returned v) w') :
  Calls X.P f vs.toArray w R:=by
 refine(callsIn_wide (n:=0)).1 (callsIn_of_wp_marks hf hb trivial ?_ rfl);have hs:=h1.enter (L0:=argL args 0) (n:=fn.ntmps) (rd:=none) hu hv;have hr:REG (X.sub M fn.ntmps none (upd1 X.up X.dp u)) M ρ ⟨argL args 0,(s.nx,.fr X.dp Lf)::s.H,s.nx+1⟩ _:=REG.args hk (j3 (yy5 _) hj) rfl hn;refine wpIn_mono (h M (upd1 X.up X.dp u) M ρ _ w hs hr) ?_;rintro e a' w' ⟨M',ρ',s',k1,k2,hw,l',L',r,e1,e2,e3,e4⟩;obtain⟨Ds,hy,hA,hh,hB⟩:=k2.defers;have h0:∀ D∈Ds,M D=none:=fun D hD=>by
  rcases hB with e|⟨_,e⟩
  ·subst e;cases hD
  ·exact e D hD
 have fin:LeavesInM Fence.wide 0 X.P fn a'.tmps R a'.defers .returning w':=by rw[hy];refine q2p hA (fun D hD=>k1.mem _ _ (hh D hD).2) fun w'' he ha=>?_;obtain⟨hC,k1'⟩:=k1.taken h0 hh he ha;have k2':REG (X.sub M fn.ntmps none (upd1 X.up X.dp u)) (M'.without Ds) ρ' s' {a' with defers:=[]}:=⟨k2.size,⟨[],rfl,yxv,by simp,.inl rfl⟩,fun d v hd=>⟨(k2.reg d v hd).1,j5 hC (Env.upTo.refl ρ' s'.nx) (k2.reg d v hd).1 (k2.reg d v hd).2⟩⟩;obtain⟨hE,v,hF,hg⟩:=e2 (X.sub M fn.ntmps none (upd1 X.up X.dp u)) _ _ _ w'' fn rfl rfl k1' k2';exact⟨v,hg,hR (M'.without Ds) ρ' s' l' L' _ v w'' k1' e1 e3 e4 hE hF⟩
 rcases hw with rfl|rfl
 ·exact fin
 ·exact fin
def JL.inlW(Kp:List Nat){f:FuncId}{fn:Func}{c:Code}{fst cap az:AV}{cs1 cs2:List Prop}{fo:Operand}{args:Array Operand}{tys:Array TypeId}(hg:o.guard=none)(hh:o.op=.call {callee:=.value fo,args:=args,argTypes:=tys})
  (hu:opd s.L fo=some (cs1,.fn f fst cap)) (ha:opds s.L args.toList=some (cs2,az)) (hc:allP (cs1++cs2)) (hf:X.P.funcs[f]?=some fn) (hb:fn.body=some c) (he:∀ az w,(callFunc f az).run X.P w=.ok (.enter f az) w)
  (hn:argN (apA fst (apA az cap))≤fn.ntmps) (hd:dstOk X.n o.dst)
  (h:∀ M0 up,JC (X.sub M0 fn.ntmps none up) c (inlW X fn.results.toList fun r L H nx=>JL X true all QA l (putS o.dst r ⟨L,H,nx⟩)) ⟨argL (apA fst (apA az cap)) 0,(s.nx,.fr X.dp (svL s.L Kp))::s.H,s.nx+1⟩):JL X true all QA (o::l) s:=by
 intro M ρ a w h1 h2;rw[z7] at hc;obtain⟨hv,eu⟩:=z5 hu hc.1 h2;simp only[AV.rv] at eu;obtain⟨fs,ks,k1,k2,k3⟩:=eu;obtain⟨hw,ea⟩:=q0p h2 ha hc.2;have hy:=q61 k1 (q61 ea k2);have hA:(apA fst (apA az cap)).bd s.nx:=q9r hv.1 (q9r hw hv.2);have hj:(execOp a.eval o).run X.P w=.ok (.enter f (fs++(args.toList.map a.eval++ks)).toArray) w:=by
  have hk:Array.map a.eval args=(List.map a.eval args.toList).toArray:=by rw[← yxc]
  obtain⟨dst,op,ty,pos,after,guard⟩:=o;simp only at hh;subst hh;simp only[execOp,resolve,k3,Deferred.ofValue,yye,yyf,yyb,invoke,hk];rw[← he];simp
 obtain⟨sv1,sv2⟩:=q5n h2 Kp;refine z9 (j6 hg) (x8 (by rw[hh];rfl) hj (z7e (R:=fun e w''=>∃ v,e=.returned v∧wpListIn X.fn 0 X.P all.toArray (conc X QA) l (a.put o.dst v) w'') hf hb hn h1 hA hy sv1 sv2 h ?_) fun e w'' hr=>hr);intro M' ρ' s' l' L' r v w' q1 q2 q3 q4 q5 q6;have b1:=h1.leave q1 (H':=del s'.H l') q1m q3 L';have b2:REG X M' ρ' ⟨L',del s'.H l',s'.nx⟩ a:=q22 h1 h2 q1 (r0 q1 q2);exact⟨v,rfl,q4 M' ρ' _ w' (z8 b1) (b2.putO hd.spec q5 q6)⟩
def JK.inlW{r:List Fr}{L:List (Nat×AV)}{H:List (Nat×HO)}{nx d:Nat}{ty:TypeId}{ps:String}{af:Array Edge}(Kp:List Nat){f:FuncId}{fn:Func}{c:Code}{fst cap az:AV}{cs1 cs2:List Prop}{fo:Operand}{args:Array Operand}{tys:Array TypeId}
  (hu:opd L fo=some (cs1,.fn f fst cap)) (ha:opds L args.toList=some (cs2,az)) (hc:allP (cs1++cs2)) (hf:X.P.funcs[f]?=some fn) (hb:fn.body=some c) (he:∀ az w,(callFunc f az).run X.P w=.ok (.enter f az) w)
  (hn:argN (apA fst (apA az cap))≤fn.ntmps) (hd:ltB d X.n=true)
  (h:∀ M0 up,JK (X.sub M0 fn.ntmps none up) [.code c] (Ox.inlW X fn.results.toList fun v L H nx=>JK X (.ops true all l::r) QA ⟨(d,v)::L,H,nx⟩) ⟨argL (apA fst (apA az cap)) 0,(nx,.fr X.dp (svL L Kp))::H,nx+1⟩) :
  JK X (.ops true all (⟨some d,.call {callee:=.value fo,args:=args,argTypes:=tys},ty,ps,af,none⟩::l)::r) QA ⟨L,H,nx⟩:=
 JL.inlW (s:=⟨L,H,nx⟩) Kp rfl rfl hu ha hc hf hb he hn (j9 hd) h
end Ox
namespace Go.Proofs.YtjecebccchhmhaaGreatDoor.Dp
open Go Go.RowKit Ox Ox.Gl
attribute [local irreducible] JC JL JK JW
variable {f s lo hi:Int}{n:Nat}
abbrev LX(f s lo hi:Int)(n:Nat)(q:Int)(sure:Bool)(x:Int):List (Nat×AV):=[(2,vI q),(4,ppTb f s lo hi n),(7,pBs sure),(8,.lf .nils),(9,.pfn (.lf (.mp 2))),(18,.lf (.optr 5 [])),(20,.lf (.osl 6)),(21,vI x)]
abbrev HX(S:MS)(v:Int)(xs:List Int):List (Nat×HO):=[(6,.sl 3 (.int .i64) xs),(5,.cell (.int .i64) (vI v)),(2,mapOf S.es S.c1)]
def fun84:funB Tryz.prog 84=true:=by decide +kernel
abbrev gdV:AV:=.fn 73 .anil (.acons (.pfn (.lf (.mp 2))) (.acons (.lf (.optr 5 [])) .anil))
abbrev LF1:List (Nat×AV):=[(3,.pfn gdV),(4,.lf (.optr 8 []))]
abbrev LX0(f s lo hi:Int)(n:Nat)(q:Int)(sure:Bool):List (Nat×AV):=[(2,vI q),(4,ppTb f s lo hi n),(7,pBs sure),(8,.lf .nils),(9,.pfn (.lf (.mp 2))),(18,.lf (.optr 5 [])),(20,.lf (.osl 6))]
abbrev KX(st:LoopState)(pe:Option Code)(a b:Code)(f s lo hi:Int)(n:Nat)(q:Int)(sure:Bool)(S:MS)(v:Int)(xs:List Int)(z:Int):List (Nat×HO):=(10,.fr 1 ((12,.lf (.yld 9))::LF1))::(9,.loop st pe #[7] a b 12 LF1)::(8,.cell (.int .i64) (vI z))::(7,.fr 0 (LX0 f s lo hi n q sure))::HX S v xs
def HX_bd{S:MS}:bdH 7 (HX S v xs):=⟨ltk rfl,trivial,ltk rfl,trivial,ltk rfl,trivial,trivial⟩
def j2n{st:LoopState}{pe:Option Code}{sure:Bool}{S:MS}:bdH 11 (KX st pe a b f s lo hi n q sure S v xs z):=⟨ltk rfl,y6 ⟨ltk rfl,⟨trivial,ltk rfl,ltk rfl,trivial⟩,ltk rfl,trivial⟩,ltk rfl,s7 ⟨⟨trivial,ltk rfl,ltk rfl,trivial⟩,ltk rfl,trivial⟩,ltk rfl,trivial,ltk rfl,y6 ⟨trivial,trivial,trivial,trivial,ltk rfl,ltk rfl,ltk rfl,trivial⟩,d9 (by omega) HX_bd⟩
def FR1_bd{st:LoopState}{z x:Int}{sure:Bool}{K0:List (Nat×HO)}(h:bdH 11 K0):bdH 203 (N2.FR st a b f s lo hi n z sure 9 x++K0):=⟨ltk rfl,y6 ⟨ltk rfl,ltk rfl,trivial,trivial,trivial⟩,ltk rfl,y6 ⟨ltk rfl,trivial,trivial,trivial,ltk rfl,trivial⟩,ltk rfl,s7 ⟨trivial,trivial,trivial,ltk rfl,trivial⟩,d9 (by omega) h⟩
set_option maxRecDepth 20000 in
set_option maxHeartbeats 4000000 in
def fn42(h:okB f s lo hi n)(hp:-2≤p∧p<n)(hq:-2≤q∧q<n)(sure:Bool):Ox.Fn Tryz.prog 42 (.acons (pTb f s lo hi n) (.acons (vI p) (.acons (vI q) (.acons (vB sure) .anil)))) (fun r=>∃ xs:List Int,r=vL xs∧xs.length≤100∧(xs≠[]↔Rch f s lo hi n sure q p)):=by
 refine zI Tryz.func42 rfl Tryz.call42 rfl fun E M0 up=>?_;have h6:=h.n6
 (repeat (first|refine zs rfl ?_|refine zmi mapP rfl rfl rfl rfl ?_|refine zmm mapP rfl ?_|refine zlm q7b rfl rfl rfl ?_))
 (refine z20 [0,1] [1,2,4,7,8,9,10,11] rfl ?_)
 refine way_bfs h hq sure fun k S hB he hk=>?_;have hH:=hB.len
 (repeat (first|refine zs rfl ?_|refine zmo mapP rfl rfl rfl rfl ?_|refine zdm q7b rfl rfl ?_))
 refine q9 rfl (fun hc=>?_) (fun hc=>?_)
 ·have hn:stF S.es p=none:=by have hc:(!mHas S.es ((p,()):plT.den))=true:=hc;unfold stF;rw[if_neg (by simpa using hc)]
  have hj:¬ Rch f s lo hi n sure q p:=fun hr=>(hB.fin he).2 hr hn;refine zK0 ?_;exact⟨.inl rfl,_,_,rfl,trivial,[],rfl,by simp,⟨fun h=>absurd rfl h,fun h=>absurd h hj⟩⟩
 ·have hh:mHas S.es ((p,()):plT.den)=true:=by have hc:(!mHas S.es ((p,()):plT.den))=false:=hc;simpa using hc
  obtain⟨v,hv⟩:∃ v,stF S.es p=some v:=by unfold stF;rw[if_pos hh];exact⟨_,rfl⟩
  have hu:mGet S.es ((p,()):plT.den) (0:Int)=v:=by unfold stF at hv;rw[if_pos hh] at hv;injection hv
  have hJ:=(hB.up p v hv).1;have hw:Rch f s lo hi n sure q p:=(hB.fin he).1 (by rw[hv];exact fun h=>by cases h);refine zK0 ?_;refine JK.loop (σ:=Int×Int×List Int) (fun r=>⟨LX f s lo hi n q sure r.2.1,HX S r.1 r.2.2,7⟩) (fun r=>stF S.es r.2.1=some r.1∧r.2.2≠[]∧(r.2.2.length:Int)+r.1≤n+4) (fun r=>r.1.toNat) (v,p,[p]) ⟨hv,by simp,by dsimp only[List.length];omega⟩ (by dsimp only;rw[← hu];exact JW.low ⟨rfl,rfl,rfl,rfl,rfl,rfl,rfl,rfl,trivial⟩ (q3q ⟨rfl,rfl,rfl,trivial⟩) ⟨trivial,trivial,trivial,trivial,ltk rfl,ltk rfl,ltk rfl,trivial,trivial⟩ ⟨ltk rfl,trivial,ltk rfl,trivial,ltk rfl,trivial,trivial⟩) fun⟨v,at_,xs⟩ ⟨ha,hd,hb⟩=>?_;dsimp only at ha hd hb ⊢;have hy:=(hB.up _ _ ha).2.1;have hK:=(hB.up _ _ ha).1;refine zK0 ?_;refine q9 rfl (fun hc=>?_) (fun hc=>?_)
  ·refine zK0 ?_;exact⟨.inl rfl,_,_,rfl,trivial,xs,rfl,by omega,⟨fun _=>hw,fun _=>hd⟩⟩
  ·have hA:at_≠q:=by have hc:(at_==q)=false:=hc;simpa using hc
   have hL:1≤v:=by
    refine yxh fun e=>?_;obtain rfl:v=0:=by omega
    exact absurd (hB.z0 _ ha) hA
   obtain⟨y,hg,hC⟩:=(hB.up _ _ ha).2.2.2 (by omega);have hD:y∈nearL f s lo hi n sure at_:=z5d (hB.up _ _ hg).2.1 hC;have c71:=fn71 (f:=f) (s:=s) (lo:=lo) (hi:=hi) (n:=n) at_ sure
   (repeat (first|refine zs rfl ?_|refine ze rfl (c71) rfl ?_))
   refine JK.inlW [2,4,7,8,9,18,20] rfl rfl trivial Tryz.func72 rfl Tryz.call72 (yyd rfl) rfl fun M1 up1=>?_
   (iterate 2 refine zs rfl ?_)
   refine JK.boxFn rfl rfl trivial rfl ?_;refine zK0 ?_;refine q2m [3,4] rfl rfl Tryz.func142 rfl Tryz.call142 (yyd rfl) trivial fun M2 up2 a1 b1 hE hF=>?_;refine u9 (s':=⟨[(0,.lf (.yld 9)),(1,ppTb f s lo hi n),(2,pI at_),(3,.val (.ptr .bool) (some sure))],KX .ready none a1 b1 f s lo hi n q sure S (v-1) xs 0,200⟩) (JW.low ⟨rfl,rfl,rfl,rfl,trivial⟩ (subH.refl _) ⟨ltk rfl,trivial,trivial,trivial,trivial⟩ (d9 (by omega) j2n)) ?_;refine JK.dp 3 (yyd rfl) ?_;refine N2.near_in (nn:=0) (rd:=none) (up:=up2) (M0:=M2) h sure hy (fun x=>decide (stF S.es x=some (v-1))) (fun _=>KX .ready none a1 b1 f s lo hi n q sure S (v-1) xs 0) (fun x=>KX .done (some .ret) a1 b1 f s lo hi n q sure S (v-1) xs x) (ltk rfl) (fun pre=>d9 (by omega) j2n) (fun _=>d9 (by omega) j2n) (fun pre=>⟨rfl,rfl⟩) (fun q=>⟨rfl,rfl⟩) ?_ ?_ ?_
   ·intro pre x post hM hx M4 rd4 up4 a2 b2;refine YI.intro (ps:=#[7]) (assign:=a1) (body:=b1) (nO:=12) (LO:=LF1) (L0:=(7,vI x)::LF1) rfl rfl rfl fun Lf M5 up5 bl hLf hN=>JK.start (v9 hE ?_);refine zK0 ?_;refine k7 (q0f rfl rfl rfl rfl (JK.start (v9 hF ?_)))
    (repeat (first|refine zs rfl ?_|refine zdf fun84 rfl rfl ?_))
    refine q0k [4,5] rfl rfl trivial Tryz.func73 rfl Tryz.call73 (yyd rfl) rfl fun M6 up6=>?_
    (repeat (first|refine zs rfl ?_|refine zg rfl rfl rfl ?_|refine n4 ?_|refine zmo mapP rfl rfl rfl rfl ?_|refine zdm q7b rfl rfl ?_))
    refine n8 rfl rfl rfl rfl ?_;have key:(bif mHas S.es ((x,()):plT.den) then mGet S.es ((x,()):plT.den) (0:Int)==v-1 else false)=decide (stF S.es x=some (v-1)):=by
     unfold stF;by_cases hz:mHas S.es ((x,()):plT.den)=true
     ·rw[if_pos hz,hz,cond_true];simp only[yya];by_cases e:mGet S.es ((x,()):plT.den) (0:Int)=v-1
      ·rw[e];simp
      ·simp[e]
     ·rw[if_neg hz];simp[hz]
    refine zK0 ?_;refine q9 rfl (fun hz=>?_) (fun hz=>?_)
    ·have hz:decide (stF S.es x=some (v-1))=true:=key.symm.trans hz;rw[hz];refine zK0 ?_;refine bodyQ.of rfl rfl rfl rfl rfl rfl ⟨rfl,?_,rfl⟩;exact q1u (swL 2 2) (B:=0) (fun l hl=>absurd hl (Nat.not_lt_zero _)) (q0u hLf) (yyw _) ⟨rfl,rfl,rfl,rfl,rfl,rfl,rfl,rfl,rfl,rfl,trivial⟩ (FR1_bd j2n) rfl
    ·have hz:decide (stF S.es x=some (v-1))=false:=key.symm.trans hz;rw[hz];refine zK0 ?_;refine k7 (bodyQ.of rfl rfl rfl rfl rfl rfl ⟨rfl,?_,rfl⟩);exact q1u (swL 2 2) (B:=0) (fun l hl=>absurd hl (Nat.not_lt_zero _)) (q0u hLf) (yyw _) ⟨rfl,rfl,rfl,rfl,rfl,rfl,rfl,rfl,rfl,rfl,trivial⟩ (FR1_bd j2n) rfl
   ·intro hst e L m hm hP;have:=hst y hD;rw[hg] at this;simp at this
   ·intro x hG hs L m hm;refine⟨?_,rfl⟩;refine rngQ.of (.inl rfl) rfl rfl rfl rfl rfl rfl rfl (j1i ?_);refine inlW.ret rfl rfl (ResW.cell (xk.t 3 _ rfl) rfl rfl) rfl ?_;refine x7 (s':=⟨(102,vI x)::LX0 f s lo hi n q sure,HX S (v-1) xs,200⟩) (JW.low ⟨rfl,rfl,rfl,rfl,rfl,rfl,rfl,rfl,trivial⟩ (q3q ⟨rfl,rfl,rfl,trivial⟩) ⟨trivial,trivial,trivial,trivial,trivial,ltk rfl,ltk rfl,ltk rfl,trivial⟩ (d9 (by omega) HX_bd)) ?_;refine zK0 ?_;have hs:stF S.es x=some (v-1):=of_decide_eq_true hs;have ht:List.take (Int.toNat (xs.length:Int)) xs=xs:=by rw[Int.toNat_natCast,yx6]
    exact⟨(v-1,x,List.take (Int.toNat (xs.length:Int)) xs++[x]),JW.of (swL 6 201) ⟨rfl,rfl,rfl,rfl,rfl,rfl,rfl,rfl,trivial⟩ ⟨rfl,rfl,rfl,trivial⟩ ⟨trivial,trivial,trivial,trivial,ltk rfl,ltk rfl,ltk rfl,trivial,trivial⟩ HX_bd rfl,⟨hs,by simp,by dsimp only;rw[ht,yyz,List.length_singleton];push_cast;omega⟩,by dsimp only;omega⟩
def fn15(h:okB f s lo hi n)(hp:-2≤p∧p<n)(hq:-2≤q∧q<n)(hb:p≠q)(sure:Bool) :
  Ox.Fn Tryz.prog 15 (.acons (vBa (spS f s n) (drS lo hi n)) (.acons (vI p) (.acons (vI q) (.acons (vB sure) .anil)))) (fun r=>∃ (xs:List Int) (e:Int),r=.tup (.acons (vL xs) (.acons (vI e) .anil))∧(e=0↔Rch f s lo hi n sure p q)∧(0≤e∧e≤100)):=by
 refine zI Tryz.func15 rfl Tryz.call15 rfl fun E M0 up=>?_;have c1:=fn40 h hp hq hb;refine zK8 ?_;refine q9 rfl (fun h=>absurd h (by decide)) (fun _=>?_);refine zK0 ?_;refine JK.cl rfl (fn42 h hp hq sure) rfl (fun r hr=>?_) trivial;obtain⟨xs,rfl,he,ha⟩:=hr;refine zK0 ?_;refine q9 rfl (fun hc=>?_) (fun hc=>?_)
 ·have h0:xs=[]:=by have hc:((xs.length:Int)==0)=true:=hc;exact yxk (by simpa using hc)
  refine zK0 ?_;exact⟨.inl rfl,_,_,rfl,trivial,[],5,rfl,⟨fun h=>absurd h (by decide),fun hr=>absurd h0 (ha.2 (hr.sym hp))⟩,by omega⟩
 ·have h0:xs≠[]:=by intro e;have hc:((xs.length:Int)==0)=false:=hc;rw[e] at hc;cases hc
  have hr:=(ha.1 h0).sym hq;have hd:xs.length=(List.replicate (Int.toNat (xs.length:Int)) (0:Int)).length:=by simp
  refine zK0 ?_;exact⟨.inl rfl,_,_,rfl,trivial,xs,0,rfl,⟨fun _=>hr,fun _=>rfl⟩,by omega⟩
def fn16(h:okB f s lo hi n)(hp:-2≤p∧p<n)(hq:-2≤q∧q<n)(hb:p≠q)(sure:Bool) :
  Ox.Fn Tryz.prog 16 (.acons (vBa (spS f s n) (drS lo hi n)) (.acons (vI p) (.acons (vI q) (.acons (vB sure) .anil)))) (fun r=>∃ (xs:List Int) (e:Int),r=.tup (.acons (vL xs) (.acons (vI e) .anil))∧(e=0↔¬ Rch f s lo hi n sure p q)∧(0≤e∧e≤100)):=by
 refine zI Tryz.func16 rfl Tryz.call16 rfl fun E M0 up=>?_;have c1:=fn40 h hp hq hb;refine zK8 ?_;refine q9 rfl (fun h=>absurd h (by decide)) (fun _=>?_);refine zK0 ?_;refine JK.cl rfl (fn43 h hp sure) rfl (fun r hr=>?_) trivial;obtain⟨xs,rfl,hd,ha⟩:=hr;have c2:=fn44 xs q
 (repeat (first|refine zs rfl ?_|refine zc rfl (c2) rfl rfl ?_))
 refine q9 rfl (fun hc=>?_) (fun hc=>?_)
 ·have hc:q∈xs:=of_decide_eq_true hc;refine zK0 ?_;exact⟨.inl rfl,_,_,rfl,trivial,[],11,rfl,⟨fun h=>absurd h (by decide),fun h=>absurd ((ha q).1 hc) h⟩,by omega⟩
 ·have hc:¬ q∈xs:=of_decide_eq_false hc;refine zK0 ?_;exact⟨.inl rfl,_,_,rfl,trivial,xs,0,rfl,⟨fun _ hr=>hc ((ha q).2 hr),fun _=>rfl⟩,by omega⟩
end Go.Proofs.YtjecebccchhmhaaGreatDoor.Dp
namespace Go.Proofs.YtjecebccchhmhaaGreatDoor.Cb
open Go Go.RowKit Ox Ox.Gl
attribute [local irreducible] JC JL JK JW rwH
def q39:Brd Tryz.prog 123 121:=Brd.of (by decide +kernel)
def z28:MapT Tryz.prog (.int .u64) (.slice twT) 121 86 52:=.of Tryz.underlying121 (by decide +kernel)
def ltk{a b:Nat}(h:Nat.ble (a+1) b=true):a<b:=yyd h
abbrev HN(cs ms:List TwD)(c:Nat)(g:Nat→List TwD):List (Nat×HO):=(15001,.cell bpT (.lf (.optr 15000 [])))::(15000,.dlk shT (mkS cs ms) 1)::(1,.mrow (fun k=>10000+k) 4096 c)::(0,.cell shT (.val shT (mkS cs ms)))::rwH 47 twT 10000 4096 g
def bdN(cs ms:List TwD)(c:Nat)(g:Nat→List TwD):bdH 15002 (HN cs ms c g):=⟨ltk rfl,ltk rfl,ltk rfl,ltk rfl,ltk rfl,fun i hi=>by show 10000+i<15002;omega,ltk rfl,trivial,z2n (yyd rfl)⟩
variable{cs ms pre:List TwD}{g:Nat→List TwD}
def delN(hk:15002≤k):del (HN cs ms c g) k=HN cs ms c g:=q8p fun p hp=>by have:=(g8 (bdN cs ms c g) p.1 p.2 hp).1;omega
def noN:noFr j (HN cs ms c g)=true:=by show noFr j (rwH 47 twT 10000 4096 g)=true;exact z9u
def delF(hk:15002≤k){o:HO}:del ((k,o)::HN cs ms c g) k=HN cs ms c g:=by rw[del,if_pos rfl,delN hk]
def bd_fr{i d l n:Nat}(h:l<n):(HO.fr i [(d,.lf (.optr l []))]).bd n:=by intro p hp;rw[yyp.1 hp];exact h
def grp(cs ms:List TwD)(pre:List TwD)(k:Nat):List TwD:=pre.filter fun z=>mkM cs ms z==k
def z5x(cs ms pre:List TwD)(z:TwD)(k:Nat):grp cs ms (pre++[z]) k=if k=mkM cs ms z then grp cs ms pre k++[z] else grp cs ms pre k:=by
 unfold grp;rw[List.filter_append];by_cases h:k=mkM cs ms z
 ·rw[if_pos h];congr 1;simp[List.filter,h]
 ·rw[if_neg h];have:(mkM cs ms z==k)=false:=by rw[beq_eq_false_iff_ne];exact fun e=>h e.symm
  simp[List.filter,this]
variable{z:TwD}
def rw_mem(h:z∈rwAll cs ms):(0≤z.1∧z.1<cs.length)∧mkM cs ms z≠0:=by unfold rwAll rwC rwB rwA at h;simp only[List.mem_flatMap,yx0,yy7,yy3] at h;obtain⟨c,hc,m,_,⟨k,_,rfl⟩,h2⟩:=h;refine⟨⟨by dsimp only;omega,by dsimp only;omega⟩,by simpa using h2⟩
def z4b{α β:Type}{f:α→List β}{n:Nat}:∀ {l:List α},(∀ x∈l,(f x).length≤n)→(l.flatMap f).length≤l.length*n
 |[],_=>by simp
 |x::l,h=>by rw[List.flatMap_cons,yyz,List.length_cons,yy8,Nat.one_mul];have h1:=h x yyh;have h2:=z4b (l:=l) fun y hy=>h y (yyj _ hy);omega
def rw_len(hs:okSh cs ms):(rwAll cs ms).length≤100000:=by
 have h1:∀ c,(rwB cs ms c ms.length).length≤12*501:=fun c=>by unfold rwB;rw[yx6];refine Nat.le_trans (z4b (n:=501) fun m hm=>?_) (yy1 _ hs.m12);unfold rwA;refine Nat.le_trans (yx7 _ _) ?_;rw[yx5,List.length_range];have:=hs.mo m hm;unfold lnA;omega
 have h2:(rwC cs ms cs.length).length≤(List.range cs.length).length*(12*501):=z4b fun c _=>h1 c;rw[List.length_range] at h2;have h3:=yy1 (12*501) hs.c8;show(rwC cs ms cs.length).length≤100000;omega
def q8d(ha:ms.length≤12)(z:TwD):mkM cs ms z<4096:=by
 unfold mkM;split
 ·decide
 ·cases h:tth ms z.2.1 (cs.getD z.1.toNat (0,0,())).1 (cs.getD z.1.toNat (0,0,())).2.1.toNat with
  |none=>decide
  |some o=>exact z8a ha h
abbrev KP(a b:Code)(cs ms pre:List TwD):List (Nat×HO):=(15004,.fr 0 [(31,.lf (.yld 15003)),(3,.lf (.optr 15001 []))])::(15003,.loop .ready none #[12] a b 31 [(3,.lf (.optr 15001 []))])::HN cs ms pre.length (grp cs ms pre)
def bdP(a b:Code)(cs ms pre:List TwD):bdH 15010 (KP a b cs ms pre):=⟨ltk rfl,y6 ⟨ltk rfl,ltk rfl,trivial⟩,ltk rfl,s7 ⟨ltk rfl,trivial⟩,d9 (yyd rfl) (bdN cs ms _ _)⟩
abbrev FE(a b:Code)(cs ms:List TwD)(c:Nat):List (Nat×HO):=[(15004,.fr 0 [(31,.lf (.yld 15003)),(3,.lf (.optr 15001 []))]),(15003,.loop .ready none #[12] a b 31 [(3,.lf (.optr 15001 []))]),
 (15001,.cell bpT (.lf (.optr 15000 []))),(15000,.dlk shT (mkS cs ms) 1),(1,.mrow (fun k=>10000+k) 4096 c),(0,.cell shT (.val shT (mkS cs ms)))]
abbrev HX(a b:Code)(cs ms pre:List TwD)(z:TwD)(m:Nat):List (Nat×HO):=(15013,.sl 47 twT (grp cs ms pre m++[z]))::(15012,.sl 47 twT [z])::(15011,.cell twT (vTw z))::(15010,.fr 1 [(50,.lf (.yld 15003))])::(15004,.fr 0 [(31,.lf (.yld 15003)),(3,.lf (.optr 15001 []))])::(15003,.loop .busy none #[12] a b 31 [(3,.lf (.optr 15001 []))]) ::
 (15001,.cell bpT (.lf (.optr 15000 [])))::(15000,.dlk shT (mkS cs ms) 1)::(1,.mrow (fun k=>rnB 10000 4096 m 15013 (10000+k)) 4096 (pre.length+1))::(0,.cell shT (.val shT (mkS cs ms)))::rwD 47 twT 10000 4096 m (grp cs ms pre)
def noX:noFr 1 (del (HX a b cs ms pre z m) 15010)=true:=by show noFr 1 (del (rwD 47 twT 10000 4096 m (grp cs ms pre)) 15010)=true;exact q1z z5c
def delP:del (del (KP a b cs ms pre) 15004) 15003=HN cs ms pre.length (grp cs ms pre):=by show del (del (HN cs ms pre.length (grp cs ms pre)) 15004) 15003=_;rw[delN (yyd rfl),delN (yyd rfl)]
def rn_f(hm:m<4096)(k:Nat):rnB 10000 4096 m j (10000+k)=if k=m then j else 10000+k:=by
 by_cases h:k<4096
 ·rw[z8w ⟨by omega,by omega⟩];by_cases h2:k=m
  ·rw[if_pos (by omega),if_pos h2]
  ·rw[if_neg (by omega),if_neg h2]
 ·rw[z0c (by omega),if_neg (by omega)]
abbrev FB(a b:Code)(cs ms:List TwD)(c:Nat)(z:TwD):List (Nat×HO):=[(15011,.cell twT (vTw z)),(15010,.fr 1 [(50,.lf (.yld 15003))]),(15004,.fr 0 [(31,.lf (.yld 15003)),(3,.lf (.optr 15001 []))]),(15003,.loop .busy none #[12] a b 31 [(3,.lf (.optr 15001 []))]),
 (15001,.cell bpT (.lf (.optr 15000 []))),(15000,.dlk shT (mkS cs ms) 1),(1,.mrow (fun k=>10000+k) 4096 c),(0,.cell shT (.val shT (mkS cs ms)))]
set_option maxRecDepth 20000 in
set_option maxHeartbeats 2000000 in
def fn55(hs:okSt cs ms):Ox.Fn Tryz.prog 55 (.acons (.val shT (mkS cs ms)) .anil) (·=vBd cs ms):=by
 refine zI Tryz.func55 rfl Tryz.call55 rfl fun E M0 up=>?_;refine zK0 ?_;refine z6p (fun k=>k) rfl ?_;refine x7 (z6k (eid:=47) (e:=twT) (nx':=15000) 10000 4096 (yyd rfl) (yyd rfl)) ?_;refine j3a q39 rfl rfl rfl rfl trivial trivial rfl ?_;refine j29 rfl trivial rfl ?_;refine JK.toD (H:=(1,.mrow (fun k=>10000+k) 4096 0)::(0,.cell shT (.val shT (mkS cs ms)))::rwH 47 twT 10000 4096 fun _=>[]) (lm:=15000) ⟨by decide,fun i hi=>by show 10000+i<15000;omega,by decide,trivial,z2n (yyd rfl)⟩ (yyd rfl) ?_;refine zK0 ?_;refine x7 (s':=⟨[(10,.lf (.optr 15000 [])),(3,.lf (.optr 15001 []))],HN cs ms 0 (fun _=>[]),15002⟩) (JW.same ⟨rfl,rfl,trivial⟩) ?_;refine x7 (q3n 10 rfl rfl) ?_;refine q0k [3] rfl rfl trivial Tryz.func28 rfl Tryz.call28 (yyd rfl) rfl fun M1 up1=>?_;refine zs rfl ?_;refine zs rfl ?_;refine zs rfl ?_;refine z4m (m:=15003) (t:=bpT) (xv:=some (mkS cs ms,())) (L':=[]) 1 rfl trivial trivial ⟨ltk rfl,bd_fr (ltk rfl),d9 (yyd rfl) (bdN cs ms 0 _)⟩ ?_;refine zK6 ?_;refine n8 rfl rfl rfl (by rw[delF (yyd rfl)];exact noN) ?_;rw[delF (yyd rfl)];refine zK0 ?_;refine q82 [3] rfl rfl rfl Tryz.func58 rfl Tryz.call58 (yyd rfl) trivial fun M3 up3 a1 b1 hd he=>?_;refine zK0 ?_;refine q66 brd rfl rfl trivial ?_;refine zK0 ?_;refine u9 (s':=⟨[(0,.lf (.yld 15003)),(1,vBb cs ms),(13,vI cs.length),(14,vI 0)],KP a1 b1 cs ms [],15010⟩) (JW.low ⟨rfl,rfl,rfl,rfl,trivial⟩ (subH.refl _) ⟨ltk rfl,trivial,trivial,trivial,trivial⟩ (bdP a1 b1 cs ms [])) ?_;refine z3m (Mx:=M3) (nX:=31) (rdX:=none) hs (fun pre=>KP a1 b1 cs ms pre) (ltk rfl) (bdP a1 b1 cs ms) ?_ ?_
 ·intro pre z post hb;obtain⟨hh,hj⟩:=rw_mem (cs:=cs) (ms:=ms) (z:=z) (by rw[hb];simp);have ha:=q8d (cs:=cs) hs.m12 z;have hu:pre.length≤100000:=by have h1:=rw_len hs.tookSh;rw[hb,yyz] at h1;omega
  refine YO.intro 0 31 (ps:=#[12]) (assign:=a1) (body:=b1) (nO:=31) (LO:=[(3,.lf (.optr 15001 []))]) (L0:=[(12,vTw z),(3,.lf (.optr 15001 []))]) rfl rfl rfl ⟨15004,_,rfl,rfl⟩ ⟨15004,_,rfl,rfl⟩ fun M4 M5 up5 bl hv=>JK.start (v9 hd ?_);refine zK0 ?_;refine k7 (q0f rfl rfl rfl rfl (JK.start (v9 he ?_)));refine zK0 ?_;have c26:=fn26 hs.tookSh z hh;refine x7 (q3n 13 rfl rfl) ?_
  (repeat (first|refine zs rfl ?_|refine zc rfl (c26) rfl rfl ?_))
  have hg:=z5x cs ms pre z;generalize mkM cs ms z=m at hg ha hj ⊢;refine u9 (s':=⟨[(5,vS64 m),(4,.lf (.optr 15011 [])),(3,.lf (.optr 15001 []))],FB a1 b1 cs ms pre.length z++rwH 47 twT 10000 4096 (grp cs ms pre),15012⟩) (JW.same ⟨rfl,rfl,rfl,trivial⟩) ?_;refine q01 xk (Tryz.f55.body.getD .skip) rfl 15 rfl ?_;refine q7 4 xk rfl rfl ?_;refine q7 9 xk rfl rfl ?_;refine z6 0 xk rfl rfl ?_;refine z6 1 xk rfl rfl ?_;refine n3 2 rfl (d0 q39 rfl rfl rfl trivial) ?_;refine n3 3 rfl (r8 q39 rfl rfl rfl (ltk rfl) trivial) ?_;refine z6 5 xk rfl rfl ?_;refine z6 6 xk rfl rfl ?_;refine n3 7 rfl (d0 q39 rfl rfl rfl trivial) ?_;refine n3 8 rfl (r8 q39 rfl rfl rfl (ltk rfl) trivial) ?_;refine n3 10 rfl (q13 z28 rfl rfl rfl ha (q3d 15013 (FB a1 b1 cs ms pre.length z) rfl ha) trivial trivial) ?_;refine z6 11 xk rfl rfl ?_;refine j0 12 [] xk ?_ (BrF.one rfl rfl ?_ BrF.nil)
  ·(focus (repeat (first|exact StF.nil|refine r7 rfl rfl rfl ?_|refine x6 rfl (d0 q39 rfl rfl rfl trivial) rfl rfl ?_|refine x6 rfl (r8 q39 rfl rfl rfl (ltk rfl) trivial) rfl rfl ?_|refine x6 rfl (q13 z28 rfl rfl rfl ha (q3d 15013 (FB a1 b1 cs ms pre.length z) rfl ha) trivial trivial) rfl rfl ?_)))
  refine q19 xk rfl rfl ?_;refine q8 ?_;refine j0 13 [] xk ?_ (BrF.one rfl rfl ?_ BrF.nil)
  ·(focus (repeat (first|exact StF.nil|refine r7 rfl rfl rfl ?_|refine x6 rfl (d0 q39 rfl rfl rfl trivial) rfl rfl ?_|refine x6 rfl (r8 q39 rfl rfl rfl (ltk rfl) trivial) rfl rfl ?_|refine x6 rfl (q13 z28 rfl rfl rfl ha (q3d 15013 ((15012,.sl 47 twT [z])::FB a1 b1 cs ms pre.length z) rfl ha) trivial trivial) rfl rfl ?_)))
  have hw:(grp cs ms pre m).length≤pre.length:=yx7 _ _;refine j21 (H':=(15012,.sl 47 twT [z])::FB a1 b1 cs ms pre.length z++rwD 47 twT 10000 4096 m (grp cs ms pre)) xk rfl rfl (by decide) rfl (q3d 15013 ((15012,.sl 47 twT [z])::FB a1 b1 cs ms pre.length z) rfl ha) rfl rfl (by show(grp cs ms pre m).length+1≤100000000;omega) trivial trivial trivial rfl (fun l o hl=>j18 15013 ((15012,.sl 47 twT [z])::FB a1 b1 cs ms pre.length z) rfl ha l o hl) ?_;refine q8 ?_;refine j0 14 [] xk ?_ (BrF.one rfl rfl ?_ BrF.nil)
  ·(focus (repeat (first|exact StF.nil|refine r7 rfl rfl rfl ?_|refine x6 rfl (d0 q39 rfl rfl rfl trivial) rfl rfl ?_|refine x6 rfl (r8 q39 rfl rfl rfl (ltk rfl) trivial) rfl rfl ?_|refine x6 rfl (q13 z28 rfl rfl rfl ha (q3d 15013 ((15012,.sl 47 twT [z])::FB a1 b1 cs ms pre.length z) rfl ha) trivial trivial) rfl rfl ?_)))
  refine j2s (f':=fun k=>rnB 10000 4096 m 15013 (10000+k)) z28 rfl rfl rfl rfl ha (fun k=>rn_f ha k) trivial trivial trivial ?_;refine q8 ?_;refine v7 xk StF.nil ?_;refine zK0 ?_;refine k7 (bodyQ.of (H:=HX a1 b1 cs ms pre z m) rfl rfl rfl rfl rfl noX ⟨rfl,?_⟩);refine j2p (front:=FE a1 b1 cs ms (pre++[z]).length) 10000 4096 m 15013 trivial ?_ trivial ?_ rfl rfl (yyd rfl) (.inr (yyd rfl)) (fun k hk=>?_)
  ·rw[show(pre++[z]).length=pre.length+1 by simp];exact⟨rfl,rfl,rfl,rfl,rfl,rfl,trivial⟩
  ·exact⟨ltk rfl,y6 ⟨ltk rfl,ltk rfl,trivial⟩,ltk rfl,s7 ⟨ltk rfl,trivial⟩,ltk rfl,ltk rfl,ltk rfl,ltk rfl,ltk rfl,fun i hi=>by show 10000+i<15010;omega,ltk rfl,trivial,trivial⟩
  ·show lk (updH (del (HX a1 b1 cs ms pre z m) 15010) 15003 _) _=_;rw[hg k];by_cases h:k=m
   ·rw[if_pos h,if_pos h,h];rfl
   ·rw[if_neg h,if_neg h,q2u _ _ _ _ rfl,if_neg (by omega),q5z,if_neg (by omega)]
    repeat rw[s8 (by omega)]
    rw[z99,if_pos ⟨by omega,by omega,by omega⟩,Nat.add_sub_cancel_left]
 ·intro L;refine k7 (rngQ.of (.inr rfl) rfl rfl rfl rfl rfl rfl (by rw[delP];exact noN) (q18 ?_));rw[delP];generalize (rwAll cs ms).length=c;generalize grp cs ms (rwAll cs ms)=g;refine zs rfl ?_;refine zs rfl ?_;refine zs rfl ?_;refine zs rfl ?_;refine x7 (q3n 30 rfl rfl) ?_;refine zK0 ?_;refine zR rfl trivial ?_;rfl
end Go.Proofs.YtjecebccchhmhaaGreatDoor.Cb
namespace Ox
open Go Go.RowKit Ox.Rn
variable {X:Ctx}{M:Mem}{ρ:Env}{a:Act}{w w':World}{QA:Exit→S→Prop}{all l:List Oper}{L:List (Nat×AV)}{H:List (Nat×HO)}{nx d d2:Nat}{ty ty2:TypeId}{ps ps2:String}{af af2:Array Edge}{md:Bool}{rr:List Fr}
variable{k:IntKind}
def JK.negW{m:Int}(hu:opd L x=some (c1,.val (.int k) m))(hc:allP c1)(hd:ltB d X.n=true)(kk:JK X (.ops md all l::rr) QA ⟨(d,.val (.int k) (k.wrap (0-m)))::L,H,nx⟩) :
  JK X (.ops md all (⟨some d,.unOp .neg t x,ty,ps,af,none⟩::l)::rr) QA ⟨L,H,nx⟩:=by
 refine JL.vq (o:=⟨some d,.unOp .neg t x,ty,ps,af,none⟩) (s:=⟨L,H,nx⟩) (v:=.val (.int k) (k.wrap (0-m))) rfl rfl (j9 hd) trivial (fun M ρ a w h1 h2=>?_) kk;have e:=(z5 (s:=⟨L,H,nx⟩) hu hc h2).2;rw[w6] at e;refine⟨.int k (k.wrap (0-m)),by rw[w6],fun w1=>?_⟩;simp only[execOp,e];rfl
def JL.mulW{t t':TypeId}{u v:Int}(hu:opd L x=some (c1,.val (.int k) u))(hv:opd L y=some (c2,.val (.int k) v))(h1:allP c1)(h2:allP c2)(hd:ltB d X.n=true)
  (kk:JL X true all QA l ⟨(d,.val (.int k) (k.wrap (u*v)))::L,H,nx⟩):JL X true all QA (⟨some d,.binOp .mul t x y t',ty,ps,af,none⟩::l) ⟨L,H,nx⟩:=by
 refine q08 rfl rfl (j9 hd) (v:=.val (.int k) (k.wrap (u*v))) (s':=⟨L,H,nx⟩) (fun M ρ a w k1 k2=>?_) kk;have e1:=(z5 (s:=⟨L,H,nx⟩) hu h1 k2).2;have e2:=(z5 (s:=⟨L,H,nx⟩) hv h2 k2).2;rw[w6] at e1 e2;refine⟨ρ,w,.value (.int k (k.wrap (u*v))),?_,Env.upTo.refl _ _,yyl _,rfl,k1,trivial,.inl ⟨_,rfl,w6.2 rfl⟩⟩;simp only[execOp,e1,e2,yye,f6,yyb,binOp,if_neg (fun h:k≠k=>h rfl)];rfl
def JK.mulW{t t':TypeId}{x y:Operand}{c1 c2:List Prop}{k:IntKind}{u v:Int}(hu:opd L x=some (c1,.val (.int k) u))(hv:opd L y=some (c2,.val (.int k) v))(h1:allP c1)(h2:allP c2)(hd:ltB d X.n=true)
  (kk:JK X (.ops true all l::rr) QA ⟨(d,.val (.int k) (k.wrap (u*v)))::L,H,nx⟩):JK X (.ops true all (⟨some d,.binOp .mul t x y t',ty,ps,af,none⟩::l)::rr) QA ⟨L,H,nx⟩:=JL.mulW hu hv h1 h2 hd kk
def JL.ldG{gs:List Gt}{g:Nat}{e0:TypeId}{k kk':IntKind}{t te:TypeId}{i:Operand}(hX:XOK X)(hz:LaidW gs X.E)(hm:(g,e0,k,xs)∈gs)(hT:lk X.T t=some (.arr xs.length (.int k)))(hj:lk X.T te=some (.int k))
  (hi:opd L i=some (c2,.val (.int kk') v)) (hk:allP c2) (h0:0≤v) (hn:v.toNat<xs.length) (hd:ltB d X.n=true) (hu:ltB d2 X.n=true) (kk:JL X true all QA l ⟨(d2,.val (.int k) (xs.getD v.toNat 0))::del L d,H,nx⟩) :
  JL X true all QA (⟨some d,.indexAddr t (.global g) i,ty,ps,af,none⟩::⟨some d2,.load te (.tmp d),ty2,ps2,af2,none⟩::l) ⟨L,H,nx⟩:=by
 intro M ρ a w h1 h2;obtain⟨cs,cty,fz,e3,e4,e5⟩:=hz.later h1.below _ hm;simp only at e3 e4 e5;have ei:=(z5 (s:=⟨L,H,nx⟩) hi hk h2).2;rw[w6] at ei;have ht:=hX.t _ _ hT;have hv:=hX.t _ _ hj;have hw:(execOp a.eval ⟨some d,.indexAddr t (.global g) i,ty,ps,af,none⟩).run X.P w=.ok (.value (.pointer (some ⟨g,v.toNat,none⟩))) w:=by have:=q1q (P:=X.P) ht (kk:=kk') (k:=v) (b:=g) (off:=0) h0 (by omega) w;have eg:a.eval (.global g)=.pointer (some ⟨g,0,none⟩):=rfl;simp only[execOp,eg,ei,yye,this,yyb,yyf];simp[Ty.size]
 have hg:REG X M ρ ⟨del L d,H,nx⟩ (a.put (some d) (.pointer (some ⟨g,v.toNat,none⟩))):=⟨by simp[Act.put,h2.size],h2.defers,fun e y he=>by
  obtain⟨q1,q2⟩:=q3h he;have:=h2.reg e y q2;refine⟨this.1,?_⟩;have q3:((a.put (some d) (.pointer (some ⟨g,v.toNat,none⟩))).tmps.getD e Go.undef)=a.tmps.getD e Go.undef:=by simp only[Act.put,yyr];rw[yxs (Ne.symm q1)]
  rw[q3];exact this.2⟩
 have hy:(a.put (some d) (.pointer (some ⟨g,v.toNat,none⟩))).eval (.tmp d)=.pointer (some ⟨g,v.toNat,none⟩):=by simp only[Act.eval,Act.put,yyr];rw[yxq (by rw[h2.size];exact j9 hd)];rfl
 have hh:v.toNat<cs.size:=by omega
 have ha:=f8 (P:=X.P) hv e3 (off:=v.toNat) (by simp only[Ty.size];omega);have hb:(cs.toList.drop v.toNat).take (Ty.size (.int k))=[Value.int k (xs.getD v.toNat 0)]:=by have h6:=e5 v.toNat hn;rw[← yxw,yyt (by simpa using hh)] at h6;rw[yxf (by simpa using hh),Option.some.inj h6];rfl
 rw[hb] at ha;have hA:(execOp (a.put (some d) (.pointer (some ⟨g,v.toNat,none⟩))).eval ⟨some d2,.load te (.tmp d),ty2,ps2,af2,none⟩).run X.P w=.ok (.value (.int k (xs.getD v.toNat 0))) w:=by simp only[execOp,hy,Instr.loadAt,Instr.sureAddr,yye,yyf,yyb,ha];rfl
 refine z9 (j6 rfl) (w3 rfl hw (z9 (j6 rfl) (w3 rfl hA ?_)));exact kk M ρ _ w (h1.regs _) (hg.putO (d:=some d2) (dstOk.spec (j9 hu)) trivial (w6.2 rfl))
def JK.ldG{gs:List Gt}{g:Nat}{e0:TypeId}{k kk':IntKind}{xs:List Int}{t te:TypeId}{i:Operand}{c2:List Prop}{v:Int}(hX:XOK X)(hz:LaidW gs X.E)(hm:(g,e0,k,xs)∈gs)(hT:lk X.T t=some (.arr xs.length (.int k)))(ha:lk X.T te=some (.int k))
  (hi:opd L i=some (c2,.val (.int kk') v)) (hb:allP c2) (h0:0≤v) (hn:v.toNat<xs.length) (hd:ltB d X.n=true) (he:ltB d2 X.n=true) (kk:JK X (.ops true all l::rr) QA ⟨(d2,.val (.int k) (xs.getD v.toNat 0))::del L d,H,nx⟩) :
  JK X (.ops true all (⟨some d,.indexAddr t (.global g) i,ty,ps,af,none⟩::⟨some d2,.load te (.tmp d),ty2,ps2,af2,none⟩::l)::rr) QA ⟨L,H,nx⟩:=JL.ldG hX hz hm hT ha hi hb h0 hn hd he kk
end Ox
namespace Go.Proofs.YtjecebccchhmhaaGreatDoor.Cb
open Go Go.RowKit Ox Ox.Gl Ox.Rn
attribute [local irreducible] JC JL JK JW
def tab64:List Int:=[0,1,56,2,57,49,28,3,61,58,42,50,38,29,17,4,62,47,59,36,45,43,51,22,53,39,33,30,24,18,12,5,63,55,48,27,60,41,37,16,46,35,44,21,52,32,23,11,54,26,40,15,34,20,31,10,25,14,19,9,13,8,7,6]
abbrev g64:Gt:=(1,5,.u8,tab64)
def tzI(b:Nat):Int:=IntKind.wrap .u64 ((((((b:Nat):Int)).toNat &&& (IntKind.wrap .u64 (0-(b:Int))).toNat:Nat):Int)*285870213051353865) / 2 ^ (58:Int).toNat
def tz_all:((List.range 4096).all fun b=>b==0||(decide (0≤tzI b∧tzI b<64)&&tab64.getD (tzI b).toNat 0==(lwB b:Int)&&decide (0≤IntKind.wrap .u64 (0-(b:Int))∧IntKind.wrap .u64 (0-(b:Int))≤18446744073709551615)&&decide (0≤IntKind.wrap .u64 ((((((b:Nat):Int)).toNat &&& (IntKind.wrap .u64 (0-(b:Int))).toNat:Nat):Int)*285870213051353865)∧IntKind.wrap .u64 ((((((b:Nat):Int)).toNat &&& (IntKind.wrap .u64 (0-(b:Int))).toNat:Nat):Int)*285870213051353865)≤18446744073709551615)))=true:=by decide +kernel
def tz_one{b:Nat}(h0:b≠0)(h:b<4096):(0≤tzI b∧tzI b<64)∧tab64.getD (tzI b).toNat 0=(lwB b:Int)∧(0≤IntKind.wrap .u64 (0-(b:Int))∧IntKind.wrap .u64 (0-(b:Int))≤18446744073709551615)∧(0≤IntKind.wrap .u64 ((((((b:Nat):Int)).toNat &&& (IntKind.wrap .u64 (0-(b:Int))).toNat:Nat):Int)*285870213051353865)∧IntKind.wrap .u64 ((((((b:Nat):Int)).toNat &&& (IntKind.wrap .u64 (0-(b:Int))).toNat:Nat):Int)*285870213051353865)≤18446744073709551615):=by
 have:=yyx.1 tz_all b (yy3.2 h);simp only[yyy,yyc,beq_iff_eq,yyu] at this;rcases this with k|⟨⟨⟨k1,k2⟩,k3⟩,k4⟩
 ·exact absurd k h0
 ·exact⟨k1,k2,k3,k4⟩
variable {gs:List Gt}
set_option maxRecDepth 20000 in
def fn124(hg:g64∈gs)(b:Nat)(h0:b≠0)(h:b<4096):FnE gs Tryz.prog 124 (.acons (.val (.int .u64) (b:Int)) .anil) (·=vI (lwB b:Nat)):=by refine Ox.FnX.intro xok Tryz.func124 rfl Tryz.call124 (yyd rfl) (fun E M0 up hz=>?_);refine JK.start ?_;obtain⟨⟨k1,k2⟩,k3,k4,k5⟩:=tz_one h0 h;have hl:=(z79 h0 h).2.1;refine zK0 ?_;refine q9 rfl (fun hc=>absurd hc (by simp;omega)) (fun _=>?_);unfold tzI at k1 k2 k3;refine zK0 ?_;refine JK.negW rfl trivial rfl ?_;generalize IntKind.wrap .u64 (0-(b:Int))=u at k1 k2 k3 k4 k5 ⊢;refine zK0 ?_;refine JK.mulW rfl rfl trivial trivial rfl ?_;generalize IntKind.wrap .u64 ((((((b:Nat):Int)).toNat &&& u.toNat:Nat):Int)*285870213051353865)=z at k1 k2 k3 k5 ⊢;refine zK0 ?_;refine JK.ldG (gs:=gs) xk hz hg rfl rfl rfl trivial k1 (by show _<64;omega) rfl rfl ?_;rw[k3];refine zK0 ?_;refine zR rfl trivial ?_;rfl
def fn57(hg:g64∈gs)(b:Nat)(h0:b≠0)(h:b<4096):FnE gs Tryz.prog 57 (.acons (.val (.int .u64) (b:Int)) .anil) (·=vI (lwB b:Nat)):=by refine Ox.FnX.intro xok Tryz.func57 rfl Tryz.call57 (yyd rfl) (fun E M0 up hz=>?_);refine JK.start ?_;have c:=fn124 hg b h0 h;refine zK0 ?_;refine q9 rfl (fun hc=>by cases hc) (fun _=>?_);refine zK0 ?_;refine JK.scE (gs:=gs) hz rfl c rfl rfl trivial ?_;refine zK0 ?_;refine zR rfl trivial ?_;rfl
def fn27(hg:g64∈gs)(b:Nat)(h:b<4096):FnE gs Tryz.prog 27 (.acons (vS64 b) .anil) (·=vL (twI b)):=by
 refine Ox.FnX.intro xok Tryz.func27 rfl Tryz.call27 (yyd rfl) (fun E M0 up hz=>?_);refine JK.start ?_;refine zK0 ?_;refine JK.ghost 3 3 (.int .i64) rfl ?_;refine JK.loop (σ:=Nat×List Int) (fun q=>⟨[(0,vS64 q.1),(2,.lf .nils),(3,.lf (.osl 0))],[(0,.sl 3 (.int .i64) q.2)],1⟩) (fun q=>q.1<4096∧q.2.length≤12∧q.2++twI q.1=twI b) (fun q=>q.1) (b,[]) ⟨h,by simp,rfl⟩ (by exact zJ) fun⟨x,out⟩ ⟨hx,hl,ho⟩=>?_;dsimp only at hx hl ho ⊢;have hb:(twI b).length≤12:=by unfold twI;rw[yx5];exact tw_len b
 refine zK0 ?_;refine q9 rfl (fun hc=>?_) (fun hc=>?_)
 ·have ha:x≠0:=fun e=>by subst e;simp at hc
  clear hc;obtain⟨t1,t2,t3,t4⟩:=z79 ha hx;have c57:=fn57 hg x ha hx;have he:(1:Int)≤(x:Int):=by omega
  have hh:out.length+1≤12:=by have:=congrArg List.length ho;rw[yyz] at this;unfold twI at this;rw[t1] at this;simp only[yy0,List.length_cons] at this;have hd:=hb;unfold twI at hd;omega
  refine zK0 ?_;refine JK.scE (gs:=gs) hz rfl c57 rfl rfl trivial ?_;refine zK0 ?_;refine⟨(x &&& (x-1),out++[((lwB x:Nat):Int)]),?_,⟨t4,by simp;omega,?_⟩,t3⟩
  ·dsimp only;have e:(((x:Int)).toNat &&& ((x:Int)-1).toNat:Nat)=x &&& (x-1):=by rw[Int.toNat_natCast,show((x:Int)-1).toNat=x-1 by omega]
   rw[← e];exact zJ
  ·dsimp only;rw[yxl,← ho];congr 1;unfold twI;rw[t1];rfl
 ·have ha:x=0:=by
   have:¬ ((x:Int)≠0):=fun h=>by have:=bne_iff_ne.2 h;rw[this] at hc;cases hc
   omega
  subst ha;have:out=twI b:=by rw[← ho];simp[twI,tw_zero]
  rw[this]
  (refine z20 [0] [3] rfl ?_)
  refine zK0 ?_;refine zR rfl trivial ?_;rfl
variable{cs ms:List TwD}
def fn24(hs:okSt cs ms):Ox.Fn Tryz.prog 24 (.acons (.val shT (mkS cs ms)) .anil) (·=.tup (.acons (vBd cs ms) (.acons (vI 0) .anil))):=by
 refine zI Tryz.func24 rfl Tryz.call24 rfl fun E M0 up=>?_;have c54:=fn54 hs;have c55:=fn55 hs
 (repeat (first|refine zs rfl ?_|refine zc rfl (c54) rfl rfl ?_))
 refine q9 rfl (fun h=>absurd h (by decide)) (fun _=>?_)
 (repeat (first|refine zs rfl ?_|refine n4 ?_|refine ze rfl (c55) rfl ?_))
 refine zR rfl trivial ?_;rfl
def fn8(hg:g64∈gs)(hs:okSt cs ms)(z:TwD)(hr:0≤z.1∧z.1<cs.length)(h0:mkM cs ms z≠0) :
  FnE gs Tryz.prog 8 (.acons (.val shT (mkS cs ms)) (.acons (vTw z) .anil)) (·=.tup (.acons (vL (twI (mkM cs ms z))) (.acons (vI 0) .anil))):=by
 refine Ox.FnX.intro xok Tryz.func8 rfl Tryz.call8 (yyd rfl) (fun E M0 up hz=>?_);refine JK.start ?_;have c24:=fn24 hs;have c25:=fn25 cs ms z.1;rw[decide_eq_true hr] at c25;have c26:=fn26 hs.tookSh z hr;have ha:=q8d (cs:=cs) hs.m12 z;have c27:=fn27 hg (mkM cs ms z) ha;generalize mkM cs ms z=m at h0 ha c26 c27 ⊢;have hm:((m:Int)==0)=false:=by simpa using h0
 (repeat (first|refine zs rfl ?_|refine ze rfl (c24) rfl ?_))
 refine q9 rfl (fun h=>absurd h (by decide)) (fun _=>?_)
 (repeat (first|refine zs rfl ?_|refine zc rfl (c25) rfl rfl ?_))
 refine q9 rfl (fun h=>absurd h (by decide)) (fun _=>?_)
 (repeat (first|refine zs rfl ?_|refine zc rfl (c26) rfl rfl ?_))
 refine q9 rfl (fun h=>absurd (hm.symm.trans h) (by decide)) (fun _=>?_);refine zK0 ?_;refine JK.ceE (gs:=gs) hz rfl c27 rfl trivial ?_;refine zK0 ?_;refine zR rfl trivial ?_;rfl
end Go.Proofs.YtjecebccchhmhaaGreatDoor.Cb
namespace Go.Proofs.YtjecebccchhmhaaGreatDoor.Cb
open Go Go.RowKit Ox Ox.Gl
attribute [local irreducible] JC JL JK JW rwH
abbrev HNo(cs ms:List TwD)(c:Nat)(g:Nat→List TwD):List (Nat×HO):=(15001,.cell bpT (.lf (.optr 15000 [])))::(15000,.dlk shT (mkS cs ms) 101)::(101,.mrow (fun k=>10000+k) 4096 c)::(100,.cell shT (.val shT (mkS cs ms)))::rwH 47 twT 10000 4096 g
def bdNo(cs ms:List TwD)(c:Nat)(g:Nat→List TwD):bdH 15002 (HNo cs ms c g):=⟨ltk rfl,ltk rfl,ltk rfl,ltk rfl,ltk rfl,fun i hi=>by show 10000+i<15002;omega,ltk rfl,trivial,z2n (yyd rfl)⟩
variable{cs ms pre:List TwD}{g:Nat→List TwD}
def delNo(hk:15002≤k):del (HNo cs ms c g) k=HNo cs ms c g:=q8p fun p hp=>by have:=(g8 (bdNo cs ms c g) p.1 p.2 hp).1;omega
def noNo:noFr j (HNo cs ms c g)=true:=by show noFr j (rwH 47 twT 10000 4096 g)=true;exact z9u
def delFo(hk:15002≤k){o:HO}:del ((k,o)::HNo cs ms c g) k=HNo cs ms c g:=by rw[del,if_pos rfl,delNo hk]
def bd_fro{i d l n:Nat}(h:l<n):(HO.fr i [(d,.lf (.optr l []))]).bd n:=by intro p hp;rw[yyp.1 hp];exact h
abbrev KPo(a b:Code)(cs ms pre:List TwD):List (Nat×HO):=(15004,.fr 0 [(31,.lf (.yld 15003)),(3,.lf (.optr 15001 []))])::(15003,.loop .ready none #[12] a b 31 [(3,.lf (.optr 15001 []))])::HNo cs ms pre.length (grp cs ms pre)
def bdPo(a b:Code)(cs ms pre:List TwD):bdH 15010 (KPo a b cs ms pre):=⟨ltk rfl,y6 ⟨ltk rfl,ltk rfl,trivial⟩,ltk rfl,s7 ⟨ltk rfl,trivial⟩,d9 (yyd rfl) (bdNo cs ms _ _)⟩
abbrev FEo(a b:Code)(cs ms:List TwD)(c:Nat):List (Nat×HO):=[(15004,.fr 0 [(31,.lf (.yld 15003)),(3,.lf (.optr 15001 []))]),(15003,.loop .ready none #[12] a b 31 [(3,.lf (.optr 15001 []))]),
 (15001,.cell bpT (.lf (.optr 15000 []))),(15000,.dlk shT (mkS cs ms) 101),(101,.mrow (fun k=>10000+k) 4096 c),(100,.cell shT (.val shT (mkS cs ms)))]
abbrev HXo(a b:Code)(cs ms pre:List TwD)(z:TwD)(m:Nat):List (Nat×HO):=(15013,.sl 47 twT (grp cs ms pre m++[z]))::(15012,.sl 47 twT [z])::(15011,.cell twT (vTw z))::(15010,.fr 1 [(50,.lf (.yld 15003))])::(15004,.fr 0 [(31,.lf (.yld 15003)),(3,.lf (.optr 15001 []))])::(15003,.loop .busy none #[12] a b 31 [(3,.lf (.optr 15001 []))]) ::
 (15001,.cell bpT (.lf (.optr 15000 [])))::(15000,.dlk shT (mkS cs ms) 101)::(101,.mrow (fun k=>rnB 10000 4096 m 15013 (10000+k)) 4096 (pre.length+1))::(100,.cell shT (.val shT (mkS cs ms)))::rwD 47 twT 10000 4096 m (grp cs ms pre)
variable{z:TwD}
def noXo:noFr 1 (del (HXo a b cs ms pre z m) 15010)=true:=by show noFr 1 (del (rwD 47 twT 10000 4096 m (grp cs ms pre)) 15010)=true;exact q1z z5c
def delPo:del (del (KPo a b cs ms pre) 15004) 15003=HNo cs ms pre.length (grp cs ms pre):=by show del (del (HNo cs ms pre.length (grp cs ms pre)) 15004) 15003=_;rw[delNo (yyd rfl),delNo (yyd rfl)]
def rn_fo(hm:m<4096)(k:Nat):rnB 10000 4096 m j (10000+k)=if k=m then j else 10000+k:=by
 by_cases h:k<4096
 ·rw[z8w ⟨by omega,by omega⟩];by_cases h2:k=m
  ·rw[if_pos (by omega),if_pos h2]
  ·rw[if_neg (by omega),if_neg h2]
 ·rw[z0c (by omega),if_neg (by omega)]
abbrev FBo(a b:Code)(cs ms:List TwD)(c:Nat)(z:TwD):List (Nat×HO):=[(15011,.cell twT (vTw z)),(15010,.fr 1 [(50,.lf (.yld 15003))]),(15004,.fr 0 [(31,.lf (.yld 15003)),(3,.lf (.optr 15001 []))]),(15003,.loop .busy none #[12] a b 31 [(3,.lf (.optr 15001 []))]),
 (15001,.cell bpT (.lf (.optr 15000 []))),(15000,.dlk shT (mkS cs ms) 101),(101,.mrow (fun k=>10000+k) 4096 c),(100,.cell shT (.val shT (mkS cs ms)))]
def hn_sub:subH (HNo cs ms 1 g) ((101,.mrow (fun k=>10000+k) 4096 1)::(15000,.dlk shT (mkS cs ms) 101)::rwH 47 twT 10000 4096 g):=fun l o h=>by
 by_cases h1:101=l
 ·subst h1;rw[lk,if_pos rfl] at h;rw[s8 (by omega),s8 (by omega),lk,if_pos rfl];exact h
 ·by_cases h2:15000=l
  ·subst h2;rw[s8 (by omega),lk,if_pos rfl] at h;rw[s8 (by omega),lk,if_pos rfl];exact h
  ·rw[s8 h1,s8 h2,z13] at h;by_cases h3:10000≤l∧l<10000+4096
   ·rw[s8 (by omega),s8 h2,s8 h1,s8 (by omega),z13];exact h
   ·rw[if_neg h3] at h;cases h
def QB(cs ms:List TwD)(z:TwD)(r:AV)(H':List (Nat×HO))(nx':Nat):Prop:=r=.lf (.optr 15000 [])∧nx'=15010∧∃ st clk,st<clk∧H'=[(101,.map (.int .u64) (.slice twT) [((mkM cs ms z:Nat),[z],st)] clk),(15000,.dlk shT (mkS cs ms) 101)]
set_option maxRecDepth 20000 in
set_option maxHeartbeats 2000000 in
def fo55(hs:okSt cs ms)(hz:rwAll cs ms=[z]):FnO Tryz.prog 55 (.acons (.val shT (mkS cs ms)) .anil) 100 (QB cs ms z):=by
 refine FnO.intro (T:=tys) (ET:=ets) (MT:=mts) Tryz.func55 rfl Tryz.call55 (yyd rfl) (fun E M0 up=>?_);refine JK.start ?_;refine zK0 ?_;refine z6p (fun k=>k) rfl ?_;refine x7 (z6k (eid:=47) (e:=twT) (nx':=15000) 10000 4096 (yyd rfl) (yyd rfl)) ?_;refine j3a q39 rfl rfl rfl rfl trivial trivial rfl ?_;refine j29 rfl trivial rfl ?_;refine JK.toD (H:=(101,.mrow (fun k=>10000+k) 4096 0)::(100,.cell shT (.val shT (mkS cs ms)))::rwH 47 twT 10000 4096 fun _=>[]) (lm:=15000) ⟨by decide,fun i hi=>by show 10000+i<15000;omega,by decide,trivial,z2n (yyd rfl)⟩ (yyd rfl) ?_;refine zK0 ?_;refine x7 (s':=⟨[(10,.lf (.optr 15000 [])),(3,.lf (.optr 15001 []))],HNo cs ms 0 (fun _=>[]),15002⟩) (JW.same ⟨rfl,rfl,trivial⟩) ?_;refine x7 (q3n 10 rfl rfl) ?_;refine q0k [3] rfl rfl trivial Tryz.func28 rfl Tryz.call28 (yyd rfl) rfl fun M1 up1=>?_;refine zs rfl ?_;refine zs rfl ?_;refine zs rfl ?_;refine z4m (m:=15003) (t:=bpT) (xv:=some (mkS cs ms,())) (L':=[]) 1 rfl trivial trivial ⟨ltk rfl,bd_fro (ltk rfl),d9 (yyd rfl) (bdNo cs ms 0 _)⟩ ?_;refine zK6 ?_;refine n8 rfl rfl rfl (by rw[delFo (yyd rfl)];exact noNo) ?_;rw[delFo (yyd rfl)];refine zK0 ?_;refine q82 [3] rfl rfl rfl Tryz.func58 rfl Tryz.call58 (yyd rfl) trivial fun M3 up3 a1 b1 hd he=>?_;refine zK0 ?_;refine q66 brd rfl rfl trivial ?_;refine zK0 ?_;refine u9 (s':=⟨[(0,.lf (.yld 15003)),(1,vBb cs ms),(13,vI cs.length),(14,vI 0)],KPo a1 b1 cs ms [],15010⟩) (JW.low ⟨rfl,rfl,rfl,rfl,trivial⟩ (subH.refl _) ⟨ltk rfl,trivial,trivial,trivial,trivial⟩ (bdPo a1 b1 cs ms [])) ?_;refine z3m (Mx:=M3) (nX:=31) (rdX:=none) hs (fun pre=>KPo a1 b1 cs ms pre) (ltk rfl) (bdPo a1 b1 cs ms) ?_ ?_
 ·intro pre z post hb;obtain⟨hh,hj⟩:=rw_mem (cs:=cs) (ms:=ms) (z:=z) (by rw[hb];simp);have ha:=q8d (cs:=cs) hs.m12 z;have hu:pre.length≤100000:=by have h1:=rw_len hs.tookSh;rw[hb,yyz] at h1;omega
  refine YO.intro 0 31 (ps:=#[12]) (assign:=a1) (body:=b1) (nO:=31) (LO:=[(3,.lf (.optr 15001 []))]) (L0:=[(12,vTw z),(3,.lf (.optr 15001 []))]) rfl rfl rfl ⟨15004,_,rfl,rfl⟩ ⟨15004,_,rfl,rfl⟩ fun M4 M5 up5 bl hw=>JK.start (v9 hd ?_);refine zK0 ?_;refine k7 (q0f rfl rfl rfl rfl (JK.start (v9 he ?_)));refine zK0 ?_;have c26:=fn26 hs.tookSh z hh;refine x7 (q3n 13 rfl rfl) ?_
  (repeat (first|refine zs rfl ?_|refine zc rfl (c26) rfl rfl ?_))
  have hg:=z5x cs ms pre z;generalize mkM cs ms z=m at hg ha hj ⊢;refine u9 (s':=⟨[(5,vS64 m),(4,.lf (.optr 15011 [])),(3,.lf (.optr 15001 []))],FBo a1 b1 cs ms pre.length z++rwH 47 twT 10000 4096 (grp cs ms pre),15012⟩) (JW.same ⟨rfl,rfl,rfl,trivial⟩) ?_;refine q01 xk (Tryz.f55.body.getD .skip) rfl 15 rfl ?_;refine q7 4 xk rfl rfl ?_;refine q7 9 xk rfl rfl ?_;refine z6 0 xk rfl rfl ?_;refine z6 1 xk rfl rfl ?_;refine n3 2 rfl (d0 q39 rfl rfl rfl trivial) ?_;refine n3 3 rfl (r8 q39 rfl rfl rfl (ltk rfl) trivial) ?_;refine z6 5 xk rfl rfl ?_;refine z6 6 xk rfl rfl ?_;refine n3 7 rfl (d0 q39 rfl rfl rfl trivial) ?_;refine n3 8 rfl (r8 q39 rfl rfl rfl (ltk rfl) trivial) ?_;refine n3 10 rfl (q13 z28 rfl rfl rfl ha (q3d 15013 (FBo a1 b1 cs ms pre.length z) rfl ha) trivial trivial) ?_;refine z6 11 xk rfl rfl ?_;refine j0 12 [] xk ?_ (BrF.one rfl rfl ?_ BrF.nil)
  ·(focus (repeat (first|exact StF.nil|refine r7 rfl rfl rfl ?_|refine x6 rfl (d0 q39 rfl rfl rfl trivial) rfl rfl ?_|refine x6 rfl (r8 q39 rfl rfl rfl (ltk rfl) trivial) rfl rfl ?_|refine x6 rfl (q13 z28 rfl rfl rfl ha (q3d 15013 (FBo a1 b1 cs ms pre.length z) rfl ha) trivial trivial) rfl rfl ?_)))
  refine q19 xk rfl rfl ?_;refine q8 ?_;refine j0 13 [] xk ?_ (BrF.one rfl rfl ?_ BrF.nil)
  ·(focus (repeat (first|exact StF.nil|refine r7 rfl rfl rfl ?_|refine x6 rfl (d0 q39 rfl rfl rfl trivial) rfl rfl ?_|refine x6 rfl (r8 q39 rfl rfl rfl (ltk rfl) trivial) rfl rfl ?_|refine x6 rfl (q13 z28 rfl rfl rfl ha (q3d 15013 ((15012,.sl 47 twT [z])::FBo a1 b1 cs ms pre.length z) rfl ha) trivial trivial) rfl rfl ?_)))
  have hy:(grp cs ms pre m).length≤pre.length:=yx7 _ _;refine j21 (H':=(15012,.sl 47 twT [z])::FBo a1 b1 cs ms pre.length z++rwD 47 twT 10000 4096 m (grp cs ms pre)) xk rfl rfl (by decide) rfl (q3d 15013 ((15012,.sl 47 twT [z])::FBo a1 b1 cs ms pre.length z) rfl ha) rfl rfl (by show(grp cs ms pre m).length+1≤100000000;omega) trivial trivial trivial rfl (fun l o hl=>j18 15013 ((15012,.sl 47 twT [z])::FBo a1 b1 cs ms pre.length z) rfl ha l o hl) ?_;refine q8 ?_;refine j0 14 [] xk ?_ (BrF.one rfl rfl ?_ BrF.nil)
  ·(focus (repeat (first|exact StF.nil|refine r7 rfl rfl rfl ?_|refine x6 rfl (d0 q39 rfl rfl rfl trivial) rfl rfl ?_|refine x6 rfl (r8 q39 rfl rfl rfl (ltk rfl) trivial) rfl rfl ?_|refine x6 rfl (q13 z28 rfl rfl rfl ha (q3d 15013 ((15012,.sl 47 twT [z])::FBo a1 b1 cs ms pre.length z) rfl ha) trivial trivial) rfl rfl ?_)))
  refine j2s (f':=fun k=>rnB 10000 4096 m 15013 (10000+k)) z28 rfl rfl rfl rfl ha (fun k=>rn_fo ha k) trivial trivial trivial ?_;refine q8 ?_;refine v7 xk StF.nil ?_;refine zK0 ?_;refine k7 (bodyQ.of (H:=HXo a1 b1 cs ms pre z m) rfl rfl rfl rfl rfl noXo ⟨rfl,?_⟩);refine j2p (front:=FEo a1 b1 cs ms (pre++[z]).length) 10000 4096 m 15013 trivial ?_ trivial ?_ rfl rfl (yyd rfl) (.inr (yyd rfl)) (fun k hk=>?_)
  ·rw[show(pre++[z]).length=pre.length+1 by simp];exact⟨rfl,rfl,rfl,rfl,rfl,rfl,trivial⟩
  ·exact⟨ltk rfl,y6 ⟨ltk rfl,ltk rfl,trivial⟩,ltk rfl,s7 ⟨ltk rfl,trivial⟩,ltk rfl,ltk rfl,ltk rfl,ltk rfl,ltk rfl,fun i hi=>by show 10000+i<15010;omega,ltk rfl,trivial,trivial⟩
  ·show lk (updH (del (HXo a1 b1 cs ms pre z m) 15010) 15003 _) _=_;rw[hg k];by_cases h:k=m
   ·rw[if_pos h,if_pos h,h];rfl
   ·rw[if_neg h,if_neg h,q2u _ _ _ _ rfl,if_neg (by omega),q5z,if_neg (by omega)]
    repeat rw[s8 (by omega)]
    rw[z99,if_pos ⟨by omega,by omega,by omega⟩,Nat.add_sub_cancel_left]
 ·intro L;refine k7 (rngQ.of (.inr rfl) rfl rfl rfl rfl rfl rfl (by rw[delPo];exact noNo) (q18 ?_));rw[delPo];rw[hz];refine zs rfl ?_;refine zs rfl ?_;refine zs rfl ?_;refine zs rfl ?_;refine x7 (s':=⟨[(30,.lf (.optr 15000 []))],(101,.mrow (fun k=>10000+k) 4096 1)::(15000,.dlk shT (mkS cs ms) 101)::rwH 47 twT 10000 4096 (grp cs ms [z]),15010⟩) (JW.low ⟨rfl,trivial⟩ hn_sub ⟨ltk rfl,trivial⟩ ⟨ltk rfl,fun i hi=>by show 10000+i<15010;omega,ltk rfl,ltk rfl,z2n (yyd rfl)⟩) ?_;refine JK.toMap (m:=mkM cs ms z) (xs:=[z]) (H':=[(15000,.dlk shT (mkS cs ms) 101)]) (q8d hs.m12 z) (by
   have:=q3d (eid:=47) (e:=twT) (b:=10000) (n:=4096) (m:=mkM cs ms z) 1 (g:=grp cs ms [z]) [(15000,.dlk shT (mkS cs ms) 101)] rfl (q8d hs.m12 z);rw[show grp cs ms [z] (mkM cs ms z)=[z] by simp[grp]] at this;exact this) (by omega) (by simp) (fun l o h=>by
    simp only[lk] at h;split at h
    ·rename_i e;subst e;exact h
    ·cases h) (s8 (by have:=q8d (cs:=cs) hs.m12 z;omega)) rfl ⟨ltk rfl,ltk rfl,trivial⟩ (fun st clk hv=>?_)
  refine zK0 ?_;exact z38 ⟨[(2,.lf (.optr 15000 []))],[(101,.map (.int .u64) (.slice twT) [((mkM cs ms z:Nat),[z],st)] clk),(15000,.dlk shT (mkS cs ms) 101)],15010⟩ (JW.same ⟨rfl,trivial⟩) rfl ⟨rfl,rfl,st,clk,hv,rfl⟩
end Go.Proofs.YtjecebccchhmhaaGreatDoor.Cb
namespace Go.Proofs.YtjecebccchhmhaaGreatDoor.Cb
open Go Go.RowKit Ox Ox.Gl
attribute [local irreducible] JC JL JK JW
abbrev mapE(cs ms:List TwD)(z:TwD)(st clk:Nat):HO:=.map (.int .u64) (.slice twT) [((mkM cs ms z:Nat),[z],st)] clk
variable{cs ms:List TwD}{z:TwD}
def QB_clo(hN:N≤101)(r:AV)(H':List (Nat×HO))(nx':Nat)(h:QB cs ms z r H' nx'):cloN N r H' nx'∧N≤nx':=by
 obtain⟨rfl,rfl,st,clk,ha,rfl⟩:=h;refine⟨⟨?_,fun l o hl=>?_⟩,by omega⟩
 ·show AV.lf (.optr (upN N 15010 15000) [])=_;rw[z77 (by omega)]
 ·simp only[lk] at hl;split at hl
  ·rename_i e;subst e;injection hl with hl;subst hl
   exact⟨hN,rfl,fun i L h=>by cases h⟩
  ·split at hl
   ·rename_i e;subst e;injection hl with hl;subst hl
    refine⟨by omega,?_,fun i L h=>by cases h⟩;show HO.dlk shT (mkS cs ms) (upN N 15010 101)=_;rw[z77 hN]
   ·cases hl
def QO(cs ms:List TwD)(z:TwD)(r:AV)(H':List (Nat×HO))(nx':Nat):Prop:=r=.tup (.acons (.lf (.optr 15000 [])) (.acons (vI 0) .anil))∧QB cs ms z (.lf (.optr 15000 [])) H' nx'
def j2k(hN:N≤101)(r:AV)(H':List (Nat×HO))(nx':Nat)(h:QO cs ms z r H' nx'):cloN N r H' nx'∧N≤nx':=by obtain⟨rfl,h⟩:=h;obtain⟨⟨h1,h2⟩,h3⟩:=QB_clo hN _ H' nx' h;refine⟨⟨?_,h2⟩,h3⟩;show AV.tup (.acons ((AV.lf (.optr 15000 [])).ren (upN N nx')) (.acons (vI 0) .anil))=_;rw[h1]
def fo24(hs:okSt cs ms)(hz:rwAll cs ms=[z]):FnO Tryz.prog 24 (.acons (.val shT (mkS cs ms)) .anil) 50 (QO cs ms z):=by
 refine FnO.intro (T:=tys) (ET:=ets) (MT:=mts) Tryz.func24 rfl Tryz.call24 (yyd rfl) (fun E M0 up=>?_);refine JK.start ?_;have c54:=fn54 hs
 (repeat (first|refine zs rfl ?_|refine zc rfl (c54) rfl rfl ?_))
 refine q9 rfl (fun h=>absurd h (by decide)) (fun _=>?_);refine zK0 ?_;refine q70 rfl (fo55 hs hz) (yyd rfl) (QB_clo (by decide)) rfl trivial (fun r H' nx' hQ=>?_);obtain⟨rfl,rfl,st,clk,ha,rfl⟩:=hQ;refine zK0 ?_;exact z38 ⟨[(2,.lf (.optr 15000 [])),(3,vI 0)],[(101,mapE cs ms z st clk),(15000,.dlk shT (mkS cs ms) 101)],15010⟩ (by exact zJ) rfl ⟨rfl,rfl,rfl,st,clk,ha,rfl⟩
set_option maxRecDepth 20000 in
def fn37(ha:ms.length≤12):Ox.Fn Tryz.prog 37 (.acons (vBd cs ms) .anil) (·=vS64 (2 ^ ms.length-1)):=by
 refine zI Tryz.func37 rfl Tryz.call37 rfl fun E M0 up=>?_;have hb:1≤(2:Int) ^ (Int.toNat (ms.length:Int))∧(2:Int) ^ (Int.toNat (ms.length:Int))≤4096:=by
  rw[Int.toNat_natCast];have h1:2 ^ ms.length≤2 ^ 12:=yxg (by decide) ha;have h2:1≤2 ^ ms.length:=Nat.one_le_two_pow;have e:(2:Int) ^ ms.length=((2 ^ ms.length:Nat):Int):=by push_cast;rfl
  rw[e];omega
 (repeat (first|refine zs rfl ?_|refine n4 ?_|refine q66 brd rfl rfl trivial ?_))
 refine zR rfl trivial ?_;refine congrArg (AV.val (.int .u64)) ?_;rw[Int.toNat_natCast,Int.one_mul];have h2:1≤2 ^ ms.length:=Nat.one_le_two_pow;have e:(2:Int) ^ ms.length=((2 ^ ms.length:Nat):Int):=by push_cast;rfl
 rw[e];show((2 ^ ms.length:Nat):Int)-1=((2 ^ ms.length-1:Nat):Int);omega
def mwf1{kt vt:Ty}{k:kt.den}{v:vt.den}{st clk:Nat}(h:st<clk):MWF (kt:=kt) (vt:=vt) [(k,v,st)] clk:=⟨fun e he=>by rw[yyp.1 he];exact h,by simp,by simp⟩
abbrev HB(cs ms:List TwD)(z:TwD)(st clk:Nat)(K:List (Nat×HO)):List (Nat×HO):=(101,mapE cs ms z st clk)::(15000,.dlk shT (mkS cs ms) 101)::K
variable{M0 M1:Mem}{Lf:List (Nat×AV)}{K:List (Nat×HO)}
set_option maxRecDepth 20000 in
def had_in{nn dp:Nat}{rd:Option Nat}{st clk:Nat}(hd:st<clk)(hg:ms.length≤12)(hLf:bdL 15100 Lf)(hK:bdH 15100 K)(hF:noFr dp K=true)
  {Kc:AV→List (Nat×AV)→List (Nat×HO)→Nat→Prop} (k:Kc (vS64 (mkM cs ms z)) Lf ((15101,.iter 101 clk [st] clk)::HB cs ms z st clk K) 15102) :
  JK (Ctx.sub ⟨Tryz.prog,tys,ets,mts,E,M0,nn,rd,up,dp⟩ M1 Tryz.f61.ntmps none up1) [.code (Tryz.f61.body.getD .skip)] (inlQ ⟨Tryz.prog,tys,ets,mts,E,M0,nn,rd,up,dp⟩ Tryz.f61.results.toList Kc)
   ⟨[(0,.lf (.optr 15000 []))],(15100,.fr dp Lf)::HB cs ms z st clk K,15101⟩:=by
 refine cdf (fn:=Tryz.f61) rfl ?_;have hh:=q8d (cs:=cs) hg z;have hw:=mwf1 (kt:=.int .u64) (vt:=.slice twT) (k:=((mkM cs ms z:Nat):Int)) (v:=[z]) hd;refine zK0 ?_;refine q1v (d0 q39 rfl rfl rfl trivial) rfl rfl ?_;refine q1v (r8 q39 rfl rfl rfl (ltk rfl) trivial) rfl rfl ?_
 (repeat (first|refine zs rfl ?_|refine zmr z28 rfl rfl rfl ?_))
 refine JK.loop (σ:=Bool) (fun b=>⟨[(3,vS64 (bif b then mkM cs ms z else 0)),(9,.lf (.itr 15101))],(15101,.iter 101 clk (bif b then [st] else []) clk)::(15100,.fr dp Lf)::HB cs ms z st clk K,15102⟩) (fun _=>True) (fun b=>bif b then 0 else 1) false trivial (JW.same ⟨rfl,rfl,trivial⟩) fun b _=>?_;cases b with
 |false=>show JK _ _ _ ⟨[(3,vS64 0),(9,.lf (.itr 15101))],(15101,.iter 101 clk [] clk)::(15100,.fr dp Lf)::HB cs ms z st clk K,15102⟩;refine zK0 ?_;refine q7j rfl rfl rfl hw.lt (yyl _) rfl (fun hall=>absurd (hall _ yyh) yy9) (fun e he hb=>?_);obtain rfl:=yyp.1 he;refine zK0 ?_;refine q9 rfl (fun _=>?_) (fun hc=>absurd hc (by decide));refine zK0 ?_;refine z6s rfl rfl rfl (seen':=[]) rfl rfl he hw rfl ?_;refine zK0 ?_;exact⟨true,JW.same ⟨by show some (AV.val (.int .u64) ((((((0:Nat):Int)).toNat ||| ((mkM cs ms z:Nat):Int).toNat:Nat):Nat):Int))=some (vS64 (mkM cs ms z));simp,rfl,trivial⟩,trivial,by decide⟩
 |true=>
  show JK _ _ _ ⟨[(3,vS64 (mkM cs ms z)),(9,.lf (.itr 15101))],(15101,.iter 101 clk [st] clk)::(15100,.fr dp Lf)::HB cs ms z st clk K,15102⟩;refine zK0 ?_;refine q7j rfl rfl rfl hw.lt (yyl _) rfl (fun hall=>?_) (fun e he hb=>absurd (by rw[yyp.1 he];exact yyh) hb);refine zK0 ?_;refine q9 rfl (fun hc=>absurd hc (by decide)) (fun _=>?_);refine zK0 ?_;have ha:del ((15101,HO.iter 101 clk [st] clk)::(15100,HO.fr dp Lf)::HB cs ms z st clk K) 15100=(15101,HO.iter 101 clk [st] clk)::HB cs ms z st clk K:=by show(15101,HO.iter 101 clk [st] clk)::(101,mapE cs ms z st clk)::(15000,HO.dlk shT (mkS cs ms) 101)::del K 15100=_;rw[q8p fun p hp=>?_];have:=(g8 hK p.1 p.2 hp).1;omega
  refine⟨.inl rfl,15100,Lf,.acons (vS64 (mkM cs ms z)) .anil,rfl,rfl,?_,?_⟩
  ·show noFr dp (del ((15101,HO.iter 101 clk [st] clk)::(15100,HO.fr dp Lf)::HB cs ms z st clk K) 15100)=true;rw[ha];exact hF
  ·show Kc _ Lf (del ((15101,HO.iter 101 clk [st] clk)::(15100,HO.fr dp Lf)::HB cs ms z st clk K) 15100) 15102;rw[ha];exact k
abbrev HW(cs ms:List TwD)(z:TwD)(st clk:Nat):List (Nat×HO):=HB cs ms z st clk [(15010,.cell bpT (.lf (.optr 15000 [])))]
set_option maxRecDepth 20000 in
set_option maxHeartbeats 2000000 in
def fo29(hs:okSt cs ms)(hz:rwAll cs ms=[z])(hall:mkM cs ms z=2 ^ ms.length-1):FnO Tryz.prog 29 (.acons (.val shT (mkS cs ms)) (.acons (vL []) .anil)) 20 (QO cs ms z):=by
 refine FnO.intro (T:=tys) (ET:=ets) (MT:=mts) Tryz.func29 rfl Tryz.call29 (yyd rfl) (fun E M0 up=>?_);refine JK.start ?_;refine zK0 ?_;refine q70 rfl (fo24 hs hz) (yyd rfl) (j2k (by decide)) rfl trivial (fun r H' nx' hQ=>?_);obtain⟨rfl,_,rfl,st,clk,ha,rfl⟩:=hQ;refine zK0 ?_;refine q9 rfl (fun h=>absurd h (by decide)) (fun _=>?_);refine zK0 ?_;refine q0k [6,4,5] rfl rfl trivial Tryz.func59 rfl Tryz.call59 (yyd rfl) rfl fun M1 up1=>?_;refine zK0 ?_;refine q0k [] rfl rfl trivial Tryz.func125 rfl Tryz.call125 (yyd rfl) rfl fun M2 up2=>?_;refine zK0 ?_;refine JK.loop (fun _:Unit=>⟨[(7,vI 0),(8,vI 0)],(15012,.fr 1 [])::(15011,.fr 0 [(6,.lf (.optr 15010 [])),(4,.lf .nilp),(5,vI 0)])::HW cs ms z st clk,15013⟩) (fun _=>True) (fun _=>0) () trivial (by exact zJ) fun _ _=>?_;refine zK0 ?_;refine q9 rfl (fun h=>absurd h (by decide)) (fun _=>?_);refine zK0 ?_;refine n8 rfl rfl rfl rfl ?_;refine zK0 ?_;refine n8 rfl rfl rfl rfl ?_;refine zK0 ?_;refine q9 rfl (fun h=>absurd h (by decide)) (fun _=>?_);refine zK2 ?_;refine u9 (s':=⟨[(6,.lf (.optr 15010 [])),(4,.lf .nilp),(5,vI 0)],HW cs ms z st clk,15100⟩) (JW.low ⟨rfl,rfl,rfl,trivial⟩ (subH.refl _) ⟨ltk rfl,trivial,trivial,trivial⟩ ⟨ltk rfl,trivial,ltk rfl,ltk rfl,ltk rfl,ltk rfl,trivial⟩) ?_;refine g9 xk (Tryz.f29.body.getD .skip) ⟨[(6,.lf (.optr 15010 [])),(4,.lf .nilp),(5,vI 0),(21,vB false)],HW cs ms z st clk,15100⟩ rfl 6 rfl ?_ ?_
 ·refine z6 0 xk rfl rfl ?_;refine z6 2 xk rfl rfl ?_;refine j0 1 [] xk (by(repeat (first|exact StF.nil|refine r7 rfl rfl rfl ?_))) (BrF.one rfl rfl ?_ BrF.nil);refine z6l (s:=⟨_,_,_⟩) [24,6,4,5] rfl rfl rfl rfl trivial Tryz.func61 rfl Tryz.call61 (yyd rfl) (j9 rfl) fun M3 up3=>JK.start (cdt (fn:=Tryz.f61) rfl ?_);refine had_in (Lf:=[(24,.lf (.optr 15000 [])),(6,.lf (.optr 15010 [])),(4,.lf .nilp),(5,vI 0)]) (K:=[(15010,.cell bpT (.lf (.optr 15000 [])))]) ha hs.m12 ⟨ltk rfl,ltk rfl,trivial,trivial,trivial⟩ ⟨ltk rfl,ltk rfl,trivial⟩ rfl ?_;refine q8 ?_;refine j0 3 [] xk (by(repeat (first|exact StF.nil|refine r7 rfl rfl rfl ?_))) (BrF.one rfl rfl ?_ BrF.nil);refine q15 (q3n 24 rfl rfl) ?_;refine q81 rfl (fn37 (cs:=cs) hs.m12) rfl trivial rfl ?_;refine q8 ?_;refine q7 4 xk rfl rfl ?_;refine q7 5 xk rfl rfl ?_;refine v7 xk StF.nil ?_;refine JW.low ⟨rfl,rfl,rfl,?_,trivial⟩ (subH.cons (subH.refl _) (n:=15100) ⟨ltk rfl,trivial,ltk rfl,ltk rfl,ltk rfl,ltk rfl,trivial⟩ (yyd rfl)) ⟨ltk rfl,trivial,trivial,trivial,trivial⟩ ⟨ltk rfl,trivial,ltk rfl,ltk rfl,ltk rfl,ltk rfl,trivial⟩;show some (vB (((mkM cs ms z:Nat):Int) != ((2 ^ ms.length-1:Nat):Int)))=some (vB false);rw[hall];simp
 refine q9 rfl (fun h=>absurd h (by decide)) (fun _=>?_);refine zK0 ?_;exact z38 ⟨[(4,.lf (.optr 15000 [])),(5,vI 0)],[(101,mapE cs ms z st clk),(15000,.dlk shT (mkS cs ms) 101)],15010⟩ (by exact zJ) rfl ⟨rfl,rfl,rfl,st,clk,ha,rfl⟩
def tbL(g:Nat→Int):List Int:=(List.range 4096).map g
variable{g:Nat→Int}
def q5l{d:Int}(h:k<4096):List.getD (tbL g) k d=g k:=by rw[tbL,yyq,List.getElem?_map,List.getElem?_range h];rfl
def tb_set:List.set (tbL g) k v=tbL fun i=>if i=k then v else g i:=by
 refine List.ext_getElem? fun j=>?_;rw[tbL,tbL,List.getElem?_set,List.getElem?_map,List.getElem?_map,yx5,List.length_range];by_cases hj:j<4096
 ·rw[List.getElem?_range hj];by_cases e:k=j
  ·subst e;rw[if_pos rfl,if_pos hj];simp
  ·rw[if_neg e];simp[Ne.symm e]
 ·rw[yxe (by simp;omega)];by_cases e:k=j
  ·subst e;rw[if_pos rfl,if_neg hj];rfl
  ·rw[if_neg e];rfl
def tb_rep:List.replicate 4096 v=tbL fun _=>v:=by
 refine List.ext_getElem? fun j=>?_;rw[tbL,List.getElem?_map];by_cases hj:j<4096
 ·rw[List.getElem?_range hj,List.getElem?_replicate,if_pos hj];rfl
 ·rw[yxe (by rw[List.length_replicate];omega),yxe (by rw[List.length_range];omega)];rfl
def q9c(e:∀ k,k<4096→g k=h k):tbL g=tbL h:=List.map_congr_left fun k hk=>e k (yy3.1 hk)
def z8e(e:∀ i,i<4096→(if i=k then v else g i)=h i):List.set (tbL g) k v=tbL h:=tb_set.trans (q9c e)
def fewT(m s k:Nat):Int:=if k=0 then 0 else if 0<s∧k=m then 1 else 1048576
def j06(h0:¬ s=0)(hm:¬ s=m):fewT m s k=fewT m (s+1) k:=by
 unfold fewT;by_cases h:k=0
 ·rw[if_pos h,if_pos h]
 ·rw[if_neg h,if_neg h];by_cases h2:k=m
  ·rw[if_pos ⟨by omega,h2⟩,if_pos ⟨by omega,h2⟩]
  ·rw[if_neg (fun h=>h2 h.2),if_neg (fun h=>h2 h.2)]
def fewT_pos{m s t k:Nat}(hs:0<s)(ht:0<t):fewT m s k=fewT m t k:=by
 unfold fewT;by_cases h:k=0
 ·rw[if_pos h,if_pos h]
 ·rw[if_neg h,if_neg h];by_cases h2:k=m
  ·rw[if_pos ⟨hs,h2⟩,if_pos ⟨ht,h2⟩]
  ·rw[if_neg (fun h=>h2 h.2),if_neg (fun h=>h2 h.2)]
def fewT_put(hm:1≤m)(hs:s=0∨s=m):(if k=m then min (fewT m s m) (fewT m s s+1) else fewT m s k)=fewT m (s+1) k:=by
 by_cases h:k=m
 ·subst h;rw[if_pos rfl];rcases hs with rfl|rfl
  ·simp[fewT,show ¬ k=0 by omega];omega
  ·simp[fewT,show ¬ s=0 by omega,show 0<s by omega];omega
 ·rw[if_neg h,fewT,fewT];by_cases h0:k=0
  ·rw[if_pos h0,if_pos h0]
  ·rw[if_neg h0,if_neg h0,if_neg (fun e=>h e.2),if_neg (fun e=>h e.2)]
abbrev tbT:Ty:=.arr 4096 (.int .i64)
abbrev vTb(g:Nat→Int):AV:=.val (.ptr tbT) (some (tbL g))
attribute [local irreducible] tbL
abbrev HM(cs ms:List TwD)(z:TwD)(st clk m dp:Nat)(Lf:List (Nat×AV))(K:List (Nat×HO)):List (Nat×HO):=(15100,.fr dp Lf)::(101,.map (.int .u64) (.slice twT) [((m:Nat),[z],st)] clk)::(15000,.dlk shT (mkS cs ms) 101)::K
set_option maxRecDepth 20000 in
def few_in{nn dp:Nat}{rd:Option Nat}{st clk:Nat}(hA:st<clk)(hu:ms.length≤12)(h1:1≤ms.length)(hall:mkM cs ms z=2 ^ ms.length-1)(hLf:bdL 15100 Lf)(hK:bdH 15100 K)(hF:noFr dp K=true)
  {Kc:AV→List (Nat×AV)→List (Nat×HO)→Nat→Prop} (k:Kc (vTb (fewT (2 ^ ms.length-1) 1)) Lf (HB cs ms z st clk K) 15101) :
  JK (Ctx.sub ⟨Tryz.prog,tys,ets,mts,E,M0,nn,rd,up,dp⟩ M1 Tryz.f36.ntmps none up1) [.code (Tryz.f36.body.getD .skip)] (inlQ ⟨Tryz.prog,tys,ets,mts,E,M0,nn,rd,up,dp⟩ Tryz.f36.results.toList Kc)
   ⟨[(0,.lf (.optr 15000 [])),(1,vS64 0)],(15100,.fr dp Lf)::HB cs ms z st clk K,15101⟩:=by
 refine cdf (fn:=Tryz.f36) rfl ?_;have hw:=mwf1 (kt:=.int .u64) (vt:=.slice twT) (k:=((mkM cs ms z:Nat):Int)) (v:=[z]) hA;have hB:2 ^ ms.length≤2 ^ 12:=yxg (by decide) hu;have hC:2 ^ 1≤2 ^ ms.length:=yxg (by decide) h1;have c37:=fn37 (cs:=cs) (ms:=ms) hu;obtain⟨m,hm⟩:∃ m,m=2 ^ ms.length-1:=⟨_,rfl⟩;rw[← hm] at hall k c37;rw[hall] at hw;have hD:1≤m:=by omega
 have hE:m<4096:=by omega
 clear hB hC hm;show JK _ _ _ ⟨_,(15100,.fr dp Lf)::(101,.map (.int .u64) (.slice twT) [((mkM cs ms z:Nat),[z],st)] clk)::(15000,.dlk shT (mkS cs ms) 101)::K,15101⟩;rw[hall];have ha:=s6 (show 15100≤15102 by omega) (y6 (i:=dp) hLf);have hv:=d9 (show 15100≤15102 by omega) hK;refine zK0 ?_;refine JK.loop (fun i:Nat=>⟨[(9,vI (i:Int)),(5,.lf (.optr 15101 [])),(4,.lf .nilp),(0,.lf (.optr 15000 [])),(1,vS64 0)],(15101,.cell tbT (.val tbT (tbL fun k=>if k<i then 1048576 else 0)))::HM cs ms z st clk m dp Lf K,15102⟩) (fun i=>i≤4096) (fun i=>4096-i) 0 (yyw _) (q29 ⟨rfl,rfl,rfl,rfl,rfl,trivial⟩ (by rw[← show List.replicate 4096 0=tbL (fun k=>if k<0 then 1048576 else 0) from tb_rep];rfl)) fun i hi=>?_;refine zK0 ?_;refine q9 rfl (fun hc=>?_) (fun hc=>?_)
 ·replace hc:=zC hc;refine zK0 ?_;exact⟨i+1,q29 ⟨rfl,rfl,rfl,rfl,rfl,trivial⟩ (congrArg (fun l=>(15101,HO.cell tbT (.val tbT l))::HM cs ms z st clk m dp Lf K) (z8e fun j hj=>by
   rw[Int.toNat_natCast];by_cases h:j=i
   ·rw[if_pos h,if_pos (by omega)]
   ·rw[if_neg h];by_cases h2:j<i
    ·rw[if_pos h2,if_pos (by omega)]
    ·rw[if_neg h2,if_neg (by omega)])),by omega,by omega⟩
 ·replace hc:=zC hc;obtain rfl:i=4096:=by omega
  refine zK0 ?_;refine JK.loop (fun s:Nat=>⟨[(7,vS64 s),(5,.lf (.optr 15101 [])),(4,.lf .nilp),(0,.lf (.optr 15000 []))],(15101,.cell tbT (.val tbT (tbL (fewT m s))))::HM cs ms z st clk m dp Lf K,15102⟩) (fun s=>s≤m+1) (fun s=>m+1-s) 0 (yyw _) (q29 ⟨rfl,rfl,rfl,rfl,trivial⟩ (congrArg (fun l=>(15101,HO.cell tbT (.val tbT l))::HM cs ms z st clk m dp Lf K) (z8e fun j hj=>by show(if j=0 then(0:Int) else if j<4096 then 1048576 else 0)=if j=0 then 0 else if 0<0∧j=m then 1 else 1048576;rw[if_pos hj,if_neg (show ¬ (0<0∧j=m) by omega)]))) fun s hs=>?_
  refine zK0 ?_;refine x7 (q3n 19 rfl rfl) ?_
  (repeat (first|refine zs rfl ?_|refine zc rfl (c37) rfl rfl ?_))
  refine q9 rfl (fun hc=>?_) (fun hc=>?_)
  ·replace hc:=zC hc;have hg:List.getD (tbL (fewT m s)) (Int.toNat (s:Int)) (Ty.int .i64).dflt=fewT m s s:=by rw[Int.toNat_natCast];exact q5l (by omega)
   have hJ:0≤(s:Int)∧(s:Int)<4096:=by omega
   refine zK0 ?_;refine q9 rfl (fun hd=>?_) (fun hd=>?_)
   ·have he:fewT m s s=1048576:=by rw[← hg];simpa using hd
    have hn:¬ (s=0)∧¬ (s=m):=by
     constructor
     ·intro h;rw[fewT,if_pos h] at he;cases he
     ·intro h;rw[fewT,if_neg (by omega),if_pos ⟨by omega,h⟩] at he;cases he
    refine zK0 ?_;exact⟨s+1,q29 ⟨by show some (AV.val (.int .u64) ((s:Int)+1))=some (vS64 (s+1));rw[vS64];congr 2,rfl,rfl,rfl,trivial⟩ (congrArg (fun l=>(15101,HO.cell tbT (.val tbT l))::HM cs ms z st clk m dp Lf K) (q9c fun j hj=>by rw[j06 hn.1 hn.2])),by omega,by omega⟩
   ·have hh:s=0∨s=m:=by
     rcases Nat.lt_or_ge 0 s with h0|h0
     ·refine .inr (yxh fun h=>?_);have h2:fewT m s s≠1048576:=by rw[← hg];simpa using hd
      exact h2 (by rw[fewT,if_neg (by omega),if_neg (by omega)])
     ·exact .inl (by omega)
    have hG:s ||| m=m:=by rcases hh with rfl|rfl<;>simp
    refine zK0 ?_;refine q1v (d0 q39 rfl rfl rfl trivial) rfl rfl ?_;refine q1v (r8 q39 rfl rfl rfl (ltk rfl) trivial) rfl rfl ?_
    (repeat (first|refine zs rfl ?_|refine zmr z28 rfl rfl rfl ?_))
    refine JK.loop (σ:=Bool) (fun b=>⟨[(32,.lf (.itr 15102)),(7,vS64 s),(5,.lf (.optr 15101 [])),(4,.lf .nilp),(0,.lf (.optr 15000 []))],(15102,.iter 101 clk (bif b then [st] else []) clk)::(15101,.cell tbT (.val tbT (tbL (fewT m (bif b then s+1 else s)))))::HM cs ms z st clk m dp Lf K,15103⟩) (fun _=>True) (fun b=>bif b then 0 else 1) false trivial (JW.same ⟨rfl,rfl,rfl,rfl,rfl,trivial⟩) fun b _=>?_;cases b with
    |false=>
     show JK _ _ _ ⟨[(32,.lf (.itr 15102)),(7,vS64 s),(5,.lf (.optr 15101 [])),(4,.lf .nilp),(0,.lf (.optr 15000 []))],(15102,.iter 101 clk [] clk)::(15101,.cell tbT (.val tbT (tbL (fewT m s))))::HM cs ms z st clk m dp Lf K,15103⟩;refine zK0 ?_;refine q7j rfl rfl rfl hw.lt (yyl _) rfl (fun hall=>absurd (hall _ yyh) yy9) (fun e he hy=>?_);obtain rfl:=yyp.1 he;refine zK0 ?_;refine q9 rfl (fun _=>?_) (fun hc=>absurd hc (by decide));refine zK0 ?_;refine z6s rfl rfl rfl (seen':=[]) rfl rfl he hw rfl ?_;have hL:0≤List.getD (tbL (fewT m s)) s 0∧List.getD (tbL (fewT m s)) s 0≤1:=by
      rw[q5l (by omega)];rcases hh with rfl|rfl
      ·simp[fewT]
      ·unfold fewT;rw[if_neg (by omega)];split<;>simp_all
     have hk:((s:Int).toNat ||| (m:Int).toNat)=m:=by rw[Int.toNat_natCast,Int.toNat_natCast];exact hG
     have hst:List.set (tbL (fewT m s)) (Int.toNat (((s:Int).toNat ||| Int.toNat (m:Int):Nat):Int)) (min (List.getD (tbL (fewT m s)) (Int.toNat (((s:Int).toNat ||| Int.toNat (m:Int):Nat):Int)) (Ty.int .i64).dflt) (List.getD (tbL (fewT m s)) (Int.toNat (s:Int)) (Ty.int .i64).dflt+1))=tbL (fewT m (s+1)):=by rw[hk,Int.toNat_natCast,q5l hE,hg];exact z8e fun j hj=>fewT_put hD hh
     refine zK2 ?_;refine q01 xk (Tryz.f36.body.getD .skip) rfl 15 rfl ?_
     (refine q7 0 xk rfl rfl (q7 1 xk rfl rfl (q7 2 xk rfl rfl (q7 3 xk rfl rfl (q7 4 xk rfl rfl (q7 5 xk rfl rfl (q7 6 xk rfl rfl (q7 8 xk rfl rfl (q7 9 xk rfl rfl (z6 7 xk rfl rfl (z6 10 xk rfl rfl (z6 11 xk rfl rfl (z6 12 xk rfl rfl (z6 13 xk rfl rfl (zU 14 xk rfl rfl ?_))))))))))))));refine zK12 ?_;refine q8 ?_;refine v7 xk StF.nil ?_;((refine zK0 ?_;exact⟨true,q29 ⟨rfl,rfl,rfl,rfl,rfl,trivial⟩ (congrArg (fun l=>(15102,HO.iter 101 clk [st] clk)::(15101,HO.cell tbT (.val tbT l))::HM cs ms z st clk m dp Lf K) hst),trivial,by decide⟩)))
    |true=>show JK _ _ _ ⟨[(32,.lf (.itr 15102)),(7,vS64 s),(5,.lf (.optr 15101 [])),(4,.lf .nilp),(0,.lf (.optr 15000 []))],(15102,.iter 101 clk [st] clk)::(15101,.cell tbT (.val tbT (tbL (fewT m (s+1)))))::HM cs ms z st clk m dp Lf K,15103⟩;refine zK0 ?_;refine q7j rfl rfl rfl hw.lt (yyl _) rfl (fun hall=>?_) (fun e he hy=>absurd (by rw[yyp.1 he];exact yyh) hy);refine zK0 ?_;refine q9 rfl (fun hc=>absurd hc (by decide)) (fun _=>?_);refine zK0 ?_;exact⟨s+1,JW.low ⟨by show some (AV.val (.int .u64) ((s:Int)+1))=some (vS64 (s+1));rw[vS64];congr 2,rfl,rfl,rfl,trivial⟩ (subH.cons (subH.refl _) (n:=15102) ⟨ltk rfl,trivial,ltk rfl,ha,ltk rfl,trivial,ltk rfl,ltk rfl,hv⟩ (yyl _)) ⟨trivial,ltk rfl,trivial,ltk rfl,trivial⟩ ⟨ltk rfl,trivial,ltk rfl,ha,ltk rfl,trivial,ltk rfl,ltk rfl,hv⟩,by omega,by omega⟩
  ·replace hc:=zC hc;obtain rfl:s=m+1:=by omega
   refine u9 (s':=⟨[(5,.lf (.optr 15101 []))],(15101,.cell tbT (.val tbT (tbL (fewT m 1))))::HM cs ms z st clk m dp Lf K,15102⟩) (q29 ⟨rfl,trivial⟩ (congrArg (fun l=>(15101,HO.cell tbT (.val tbT l))::HM cs ms z st clk m dp Lf K) (q9c fun j hj=>fewT_pos (by omega) (by omega)))) ?_;have hH:bdH 15101 (HM cs ms z st clk m dp Lf K):=⟨ltk rfl,s6 (show 15100≤15101 by omega) (y6 (i:=dp) hLf),ltk rfl,trivial,ltk rfl,ltk rfl,d9 (show 15100≤15101 by omega) hK⟩;refine z6r 5 (L':=[]) rfl trivial trivial hH ?_;refine zK0 ?_;have hb:del (HM cs ms z st clk m dp Lf K) 15100=(101,HO.map (.int .u64) (.slice twT) [((m:Nat),[z],st)] clk)::(15000,HO.dlk shT (mkS cs ms) 101)::K:=by show(101,HO.map (.int .u64) (.slice twT) [((m:Nat),[z],st)] clk)::(15000,HO.dlk shT (mkS cs ms) 101)::del K 15100=_;rw[q8p fun p hp=>by have:=(g8 hK p.1 p.2 hp).1;omega]
   refine⟨.inl rfl,15100,Lf,.acons (vTb (fewT m 1)) .anil,rfl,rfl,?_,?_⟩
   ·show noFr dp (del (HM cs ms z st clk m dp Lf K) 15100)=true;rw[hb];exact hF
   ·show Kc _ Lf (del (HM cs ms z st clk m dp Lf K) 15100) 15101;rw[hb,← hall];rw[← hall] at k;exact k
end Go.Proofs.YtjecebccchhmhaaGreatDoor.Cb
namespace Ox
open Go Go.RowKit
variable {X:Ctx}{M:Mem}{ρ:Env}{a:Act}{w w':World}{QA:Exit→S→Prop}{all l:List Oper}{L:List (Nat×AV)}{H:List (Nat×HO)}{nx d:Nat}{ty:TypeId}{ps:String}{af:Array Edge}{md:Bool}{rr:List Fr}
end Ox
namespace Ox.Gl
open Go Go.RowKit Ox
variable {kt:Ty}[DecidableEq kt.den]
abbrev shE(kt:Ty):=Ent kt (.int .i64)
structure CM(Q:kt.den→Prop)(es:List (shE kt))(clk:Nat)(c:kt.den→Nat):Prop where
 wf:MWF es clk
 nn:∀ e∈es,0≤(show Int from e.2.1)
 ok:∀ e∈es,Q e.1
 eq:∀ p:kt.den,(show Int from mGet es p (0:Int))=(c p:Int)
def CM.congr{Q:kt.den→Prop}{es:List (shE kt)}{c c':kt.den→Nat}(h:CM Q es clk c)(hc:∀ p,c p=c' p):CM Q es clk c':=⟨h.wf,h.nn,h.ok,fun p=>by rw[← hc p];exact h.eq p⟩
def CM.nil(Q:kt.den→Prop)(clk:Nat):CM Q [] clk fun _=>0:=⟨.nil,(fun _ h=>by cases h),(fun _ h=>by cases h),fun _=>rfl⟩
def CM.add{Q:kt.den→Prop}{es:List (shE kt)}{c:kt.den→Nat}(h:CM Q es clk c)(q:kt.den)(n:Nat)(hq:Q q)(hv:v=(c q:Int)+n) :
  CM Q (mPut es clk q v) (mClk es clk q) fun p=>if p=q then c p+n else c p:=by
 refine⟨h.wf.put,fun e he=>?_,fun e he=>?_,fun p=>?_⟩
 ·rcases(q1f h.wf).1 he with⟨h1,_⟩|⟨_,h1,_⟩
  ·exact h.nn e h1
  ·show(0:Int)≤e.2.1;rw[h1];show(0:Int)≤v;omega
 ·rcases(q1f h.wf).1 he with⟨h1,_⟩|⟨h1,_,_⟩
  ·exact h.ok e h1
  ·show Q e.1;rw[h1];exact hq
 ·show(mGet (mPut es clk q v) p (0:Int):Int)=_;rw[mGet_put h.wf (inferInstance)];by_cases e:p=q
  ·rw[if_pos e,if_pos e,e];exact hv
  ·rw[if_neg e,if_neg e];exact h.eq p
def bag(es:List (shE kt)):List kt.den:=es.flatMap fun e=>List.replicate (show Int from e.2.1).toNat (e.1:kt.den)
structure Far(es done:List (shE kt)):Prop where
 rest:∃ rest,(done++rest).Perm es
def Far.nil(es:List (shE kt)):Far es []:=⟨es,.refl _⟩
def Far.sub{es done:List (shE kt)}(h:Far es done):∀ e∈done,e∈es:=by obtain⟨rest,h⟩:=h.rest;exact fun e he=>h.mem_iff.1 (yxy _ he)
def Far.all{es done:List (shE kt)}(hw:MWF es clk)(h:Far es done)(ha:∀ e∈es,e.2.2∈done.map (·.2.2)):done.Perm es:=by
 obtain⟨rest,h⟩:=h.rest;cases rest with
 |nil=>simpa using h
 |cons x r=>have hx:x∈es:=h.mem_iff.1 (List.mem_append_right _ yyh);obtain⟨y,hy,hb⟩:=yy7.1 (ha x hx);have hn:((done++x::r).map (·.2.2)).Nodup:=(h.map _).nodup_iff.2 hw.nb;rw[yxz,List.nodup_append] at hn;exact absurd hb (hn.2.2 _ (List.mem_map_of_mem hy) _ (by simp))
def Far.len{es done:List (shE kt)}(h:Far es done):(bag done).length≤(bag es).length:=by obtain⟨rest,h⟩:=h.rest;have:=(j04 (f:=fun e:(shE kt)=>List.replicate (show Int from e.2.1).toNat (e.1:kt.den)) h).length_eq;rw[List.flatMap_append,yyz] at this;unfold bag;omega
def j1t{Q:kt.den→Prop}{es es3:List (shE kt)}{c:kt.den→Nat}{f:kt.den→Bool}(h:CM Q es clk c)(hs:es3.Sublist es)(hi:∀ e∈es,e∈es3↔f e.1=true):CM Q es3 clk fun p=>if f p=true then c p else 0:=by
 have hw:=h.wf.sub hs;refine⟨hw,fun e he=>h.nn e (hs.subset he),fun e he=>h.ok e (hs.subset he),fun p=>?_⟩;have h1:=h.eq p;cases hx:mIdx es p with
 |none=>
  rw[q04] at hx;have e1:mGet es p (0:Int)=(0:Int):=q3t hx;have e2:mGet es3 p (0:Int)=(0:Int):=q3t fun e he=>hx e (hs.subset he);show mGet es3 p (0:Int)=_;rw[e2];have h0:(c p:Int)=0:=by rw[← h1];exact e1
  have hb:c p=0:=by omega
  rw[hb];split<;>rfl
 |some k=>
  obtain⟨hl,hk⟩:=q2d hx;have he:=yy4 hl;generalize es[k]=e at hk he;subst hk;show mGet es3 e.1 (0:Int)=_;by_cases hf:f e.1=true
  ·rw[if_pos hf,q3u hw ((hi e he).2 hf),← h1];exact(q3u h.wf he).symm
  ·rw[if_neg hf];refine q3t fun a ha hk=>hf ?_;have:=h.wf.eq (hs.subset ha) he hk;subst this;exact(hi a he).1 ha
section
variable {kt:Ty}[DecidableEq kt.den]
def CM.del{Q:kt.den→Prop}{es:List (shE kt)}{c:kt.den→Nat}(h:CM Q es clk c)(x:kt.den):CM Q (mDel es x) clk fun p=>if p=x then 0 else c p:=by
 have:=j1t (f:=fun p=>decide (p≠x)) h z5h fun e he=>by rw[q7r h.wf,decide_eq_true_iff];exact⟨fun k=>k.2,fun k=>⟨he,k⟩⟩
 refine this.congr fun p=>?_;by_cases e:p=x<;>simp[e]
def CM.key{Q:kt.den→Prop}{es:List (shE kt)}{c:kt.den→Nat}(h:CM Q es clk c){p:kt.den}(hp:c p≠0):∃ e∈es,e.1=p:=by
 refine yxh fun hc=>hp ?_;have h1:=h.eq p;have h2:mGet es p (0:Int)=(0:Int):=q3t fun e he k=>hc ⟨e,he,k⟩;have h3:(c p:Int)=0:=by rw[← h1];exact h2
 omega
end
section
variable {α:Type}[DecidableEq α]
end
section
variable {kt:Ty}[DecidableEq kt.den]
end
variable {P:Nat→Nat→Bool}{n:Nat}
end Ox.Gl
namespace Go.Proofs.YtjecebccchhmhaaGreatDoor.Cb
open Go Go.RowKit Ox Ox.Gl
attribute [local irreducible] JC JL JK JW
def map121:mapB Tryz.prog 121=true:=by decide +kernel
def fn239(x:Int):Ox.Fn Tryz.prog 239 (.acons (.val (.slice (.int .u64)) [x]) (.acons (vI 0) (.acons (vI 1) .anil))) (·=.tup .anil):=by refine zI Tryz.func239 rfl Tryz.call239 rfl fun E M0 up=>?_;refine zK0 ?_;refine JK.loop (fun _:Unit=>⟨[(6,vI 1),(2,vI 1)],[],0⟩) (fun _=>True) (fun _=>0) () trivial (by exact zJ) fun _ _=>?_;refine zK0 ?_;refine q9 rfl (fun h=>absurd h (by decide)) (fun _=>?_);refine zK0 ?_;exact k7 ⟨.inr rfl,_,_,rfl,trivial,rfl⟩
def fn223(x n:Int):Ox.Fn Tryz.prog 223 (.acons (.val (.slice (.int .u64)) [x]) (.acons (vI 0) (.acons (vI 1) (.acons (vI n) .anil)))) (·=.tup .anil):=by
 refine zI Tryz.func223 rfl Tryz.call223 rfl fun E M0 up=>?_;refine zK0 ?_;refine JK.loop (fun _:Unit=>⟨[(0,.val (.slice (.int .u64)) [x]),(1,vI 0),(2,vI 1),(3,vI n)],[],0⟩) (fun _=>True) (fun _=>0) () trivial (by exact zJ) fun _ _=>?_;refine zK0 ?_;refine q9 rfl (fun _=>?_) (fun h=>absurd h (by decide))
 (repeat (first|refine zs rfl ?_|refine n4 ?_|refine zc rfl (fn239 x) rfl rfl ?_))
 exact⟨.inl rfl,_,_,rfl,trivial,rfl⟩
def fn179(x:Int):Ox.Fn Tryz.prog 179 (.acons (.val (.slice (.int .u64)) [x]) .anil) (·=.tup .anil):=by
 refine zI Tryz.func179 rfl Tryz.call179 rfl fun E M0 up=>?_;refine zK0 ?_;refine JK.cl rfl (fn64 1 (by omega)) rfl (fun r hr=>?_) trivial;obtain⟨n,h1,h2,rfl⟩:=hr
 (repeat (first|refine zs rfl ?_|refine zc rfl (fn223 x n) rfl rfl ?_))
 exact k7 ⟨.inr rfl,_,_,rfl,trivial,rfl⟩
abbrev KW:List (Nat×HO):=[(15011,.fr 1 [(0,.lf (.optr 15000 [])),(3,.lf .nils)]),(15010,.fr 0 [])]
abbrev seqG:AV:=.fn 180 .anil (.acons (.pfn (.lf (.mp 101))) .anil)
abbrev HSf(a b:Code)(cs ms:List TwD)(z:TwD)(st clk:Nat)(Lf:List (Nat×AV)):List (Nat×HO):=(15110,.sl 86 (.int .u64) [((mkM cs ms z:Nat):Int)])::(15109,.sl 86 (.int .u64) [((mkM cs ms z:Nat):Int)])::(15107,.iter 101 clk [st] clk)::(15106,.fr 5 [(13,.lf (.yld 15105)),(2,.lf (.optr 15103 []))])::(15105,.loop .ready none #[7] a b 13 [(2,.lf (.optr 15103 []))])::(15103,.cell (.slice (.int .u64)) (.lf (.osl 15110)))::(15102,.fr 4 [])::(15101,.fr 3 [])::(15100,.fr 2 Lf)::HB cs ms z st clk KW
abbrev HSo(a b:Code)(cs ms:List TwD)(z:TwD)(st clk:Nat)(Lf:List (Nat×AV))(row:List Int):List (Nat×HO):=(15106,.fr 5 [(13,.lf (.yld 15105)),(2,.lf (.optr 15103 []))])::(15105,.loop .ready none #[7] a b 13 [(2,.lf (.optr 15103 []))])::(15104,.sl 86 (.int .u64) row)::(15103,.cell (.slice (.int .u64)) (.lf (.osl 15104)))::(15102,.fr 4 [])::(15101,.fr 3 [])::(15100,.fr 2 Lf)::HB cs ms z st clk KW
variable{M0 M1:Mem}{cs ms:List TwD}{z:TwD}
set_option maxRecDepth 20000 in
def z8i{rd:Option Nat}{st clk:Nat}(hb:st<clk)(hh:ms.length≤12){Lf:List (Nat×AV)}(hLf:bdL 15100 Lf)
  {Kc:AV→List (Nat×AV)→List (Nat×HO)→Nat→Prop} (k:Kc (.val (.slice (.int .u64)) [((mkM cs ms z:Nat):Int)]) Lf (HB cs ms z st clk KW) 15110) :
  JK (Ctx.sub ⟨Tryz.prog,tys,ets,mts,E,M0,nn,rd,up,2⟩ M1 Tryz.f126.ntmps none up1) [.code (Tryz.f126.body.getD .skip)] (inlQ ⟨Tryz.prog,tys,ets,mts,E,M0,nn,rd,up,2⟩ Tryz.f126.results.toList Kc)
   ⟨[(0,seqG)],(15100,.fr 2 Lf)::HB cs ms z st clk KW,15101⟩:=by
 refine cdf (fn:=Tryz.f126) rfl ?_;have hw:=mwf1 (kt:=.int .u64) (vt:=.slice twT) (k:=((mkM cs ms z:Nat):Int)) (v:=[z]) hb;refine zK0 ?_;refine q0k [] rfl rfl trivial Tryz.func178 rfl Tryz.call178 (yyd rfl) rfl fun M1 up1=>?_;refine zK0 ?_;refine q0k [] rfl rfl trivial Tryz.func222 rfl Tryz.call222 (yyd rfl) rfl fun M2 up2=>?_;refine zK0 ?_;refine z2z 15103 86 (.int .u64) rfl ?_;refine q2m [2] rfl rfl Tryz.func180 rfl Tryz.call180 (yyd rfl) trivial fun M3 up3 a1 b1 hd hg=>?_
 (repeat (first|refine zs rfl ?_|refine zmr z28 rfl rfl rfl ?_|refine zdm map121 rfl rfl ?_))
 refine JK.loop (σ:=Bool) (fun b=>match b with|false=>⟨[(0,.lf (.yld 15105)),(5,.lf (.itr 15107))],(15107,.iter 101 clk [] clk)::HSo a1 b1 cs ms z st clk Lf [],15108⟩|true=>⟨[(0,.lf (.yld 15105)),(5,.lf (.itr 15107))],HSf a1 b1 cs ms z st clk Lf,15111⟩) (fun _=>True) (fun b=>bif b then 0 else 1) false trivial (JW.same ⟨rfl,rfl,trivial⟩) fun b _=>?_;cases b with
 |false=>show JK _ _ _ ⟨[(0,.lf (.yld 15105)),(5,.lf (.itr 15107))],(15107,.iter 101 clk [] clk)::HSo a1 b1 cs ms z st clk Lf [],15108⟩;refine zK0 ?_;refine q7j rfl rfl rfl hw.lt (yyl _) rfl (fun hall=>absurd (hall _ yyh) yy9) (fun e he ha=>?_);obtain rfl:=yyp.1 he;refine zK0 ?_;refine q9 rfl (fun _=>?_) (fun hc=>absurd hc (by decide));refine zK0 ?_;refine z6s rfl rfl rfl (seen':=[]) rfl rfl he hw rfl ?_;refine zK0 ?_;refine q2l [0,5] rfl rfl rfl rfl rfl rfl trivial fun M4 up4 bl hj=>JK.start (v9 hd ?_);refine zK0 ?_;refine k7 (q0f rfl rfl rfl rfl (JK.start (v9 hg ?_)));refine zK0 ?_;refine k7 (bodyQ.of rfl rfl rfl rfl rfl rfl ?_);show JK _ _ _ ⟨[(12,vB true),(0,.lf (.yld 15105)),(5,.lf (.itr 15107))],HSf a1 b1 cs ms z st clk Lf,15111⟩;refine zK0 ?_;refine q9 rfl (fun hc=>absurd hc (by decide)) (fun _=>?_);refine zK0 ?_;exact⟨true,JW.same ⟨rfl,rfl,trivial⟩,trivial,by decide⟩
 |true=>
  show JK _ _ _ ⟨[(0,.lf (.yld 15105)),(5,.lf (.itr 15107))],HSf a1 b1 cs ms z st clk Lf,15111⟩;refine zK0 ?_;refine q7j rfl rfl rfl hw.lt (yyl _) rfl (fun hall=>?_) (fun e he ha=>absurd (by rw[yyp.1 he];exact yyh) ha);refine zK0 ?_;refine q9 rfl (fun hc=>absurd hc (by decide)) (fun _=>?_);refine zK0 ?_;refine k7 (rngQ.of (.inr rfl) rfl rfl rfl rfl rfl rfl rfl (q18 ?_));refine zK0 ?_;refine n8 rfl rfl rfl rfl ?_;refine zK0 ?_;refine n8 rfl rfl rfl rfl ?_;have hB:bdH 15101 ((15100,.fr 2 Lf)::HB cs ms z st clk KW):=⟨ltk rfl,s6 (show 15100≤15101 by omega) (y6 (i:=2) hLf),ltk rfl,trivial,ltk rfl,ltk rfl,ltk rfl,y6 ⟨ltk rfl,trivial,trivial⟩,ltk rfl,y6 trivial,trivial⟩;refine q84 (H':=(15100,.fr 2 Lf)::HB cs ms z st clk KW) (L':=[]) (nx':=15110) 15110 5 rfl rfl trivial (subH.cons (subH.cons (subH.cons (subH.cons (subH.refl _) hB (yyd rfl)) hB (yyd rfl)) hB (yyd rfl)) hB (yyd rfl)) rfl trivial (d9 (by omega) hB) ?_
  (repeat (first|refine zs rfl ?_|refine n4 ?_|refine zc rfl (fn179 ((mkM cs ms z:Nat):Int)) rfl rfl ?_))
  exact n8 rfl rfl rfl rfl k
def eq204:EqT Tryz.prog (.arr 4096 (.int .u64)) 204:=.of (by decide +kernel)
def subH_mv{o:HO}{A B:List (Nat×HO)}(h:lk A m=none):subH ((m,o)::(A++B)) (A++(m,o)::B):=fun l q hq=>by
 rw[q38] at hq;by_cases e:m=l
 ·subst e;rw[h,lk,if_pos rfl] at hq;rw[lk,if_pos rfl];exact hq
 ·rw[s8 e,q38];rw[s8 e] at hq;exact hq
abbrev cz:Nat×HO:=(15012,.cell (.arr 4096 (.int .u64)) (zav (.arr 4096 (.int .u64))))
def bdKW(cs ms:List TwD)(z:TwD)(st clk:Nat):bdH 15100 (HB cs ms z st clk KW):=⟨ltk rfl,trivial,ltk rfl,ltk rfl,ltk rfl,y6 ⟨ltk rfl,trivial,trivial⟩,ltk rfl,y6 trivial,trivial⟩
set_option maxRecDepth 20000 in
set_option maxHeartbeats 2000000 in
def ways_in{rd:Option Nat}{st clk:Nat}(hb:st<clk)(ha:ms.length≤12)(h1:1≤ms.length)(hall:mkM cs ms z=2 ^ ms.length-1)
  {Kc:AV→List (Nat×AV)→List (Nat×HO)→Nat→Prop} (k:Kc (.val (.slice (.int .u64)) [((2 ^ ms.length-1:Nat):Int)]) [(0,.lf (.optr 15000 [])),(3,.lf .nils)] (HB cs ms z st clk [(15010,.fr 0 [])]) 15110) :
  JK (Ctx.sub ⟨Tryz.prog,tys,ets,mts,E,M0,nn,rd,up,1⟩ M1 Tryz.f62.ntmps none up1) [.code (Tryz.f62.body.getD .skip)] (inlQ ⟨Tryz.prog,tys,ets,mts,E,M0,nn,rd,up,1⟩ Tryz.f62.results.toList Kc)
   ⟨[(0,.lf (.optr 15000 []))],HB cs ms z st clk KW,15012⟩:=by
 refine cdf (fn:=Tryz.f62) rfl ?_;have hd:2 ^ ms.length≤2 ^ 12:=yxg (by decide) ha;have he:2 ^ 1≤2 ^ ms.length:=yxg (by decide) h1;refine zK0 ?_;refine x7 (s':=⟨[(11,.lf (.optr 15000 [])),(0,.lf (.optr 15000 [])),(3,.lf (.optr 15012 []))],HB cs ms z st clk (cz::KW),15100⟩) (JW.low ⟨rfl,rfl,rfl,trivial⟩ (subH_mv (A:=[(101,mapE cs ms z st clk),(15000,.dlk shT (mkS cs ms) 101)]) rfl) ⟨ltk rfl,ltk rfl,ltk rfl,trivial⟩ ⟨ltk rfl,trivial,ltk rfl,ltk rfl,ltk rfl,trivial,ltk rfl,y6 ⟨ltk rfl,trivial,trivial⟩,ltk rfl,y6 trivial,trivial⟩) ?_;refine q0k [0,3] rfl rfl trivial Tryz.func61 rfl Tryz.call61 (yyd rfl) rfl fun M3 up3=>?_;refine had_in (Lf:=[(0,.lf (.optr 15000 [])),(3,.lf (.optr 15012 []))]) (K:=cz::KW) hb ha ⟨ltk rfl,ltk rfl,trivial⟩ ⟨ltk rfl,trivial,ltk rfl,y6 ⟨ltk rfl,trivial,trivial⟩,ltk rfl,y6 trivial,trivial⟩ rfl ?_;have hh:(((mkM cs ms z:Nat):Int)==0)=false:=by rw[hall];simp;omega
 (repeat (first|refine zs rfl ?_|refine zg rfl rfl rfl ?_|refine zneg eq204 rfl rfl rfl rfl ?_))
 have hj:(Ty.arr 4096 (.int .u64)).eqB (Ty.arr 4096 (.int .u64)).dflt (Ty.arr 4096 (.int .u64)).dflt=true:=y7.2 rfl;refine q9 rfl (fun h=>absurd (show(bif ((mkM cs ms z:Nat):Int)==0 then true else !(Ty.arr 4096 (.int .u64)).eqB (Ty.arr 4096 (.int .u64)).dflt (Ty.arr 4096 (.int .u64)).dflt)=true from h) (by rw[hh,cond_false,hj];decide)) (fun _=>?_);refine u9 (s':=⟨[(0,.lf (.optr 15000 []))],HB cs ms z st clk KW,15100⟩) ?_ ?_
 ·refine JW.low ⟨rfl,trivial⟩ (fun l q hq=>?_) ⟨ltk rfl,trivial⟩ (bdKW cs ms z st clk);have hw:l<15100:=(g8 (bdKW cs ms z st clk) l q (w5 hq)).1;rw[s8 (by omega)];by_cases e:l=15012
  ·subst e;cases hq
  ·simp only[HB,cz,lk] at hq ⊢;rw[if_neg (Ne.symm e)];exact hq
 refine zK0 ?_;refine q0k [0] rfl rfl trivial Tryz.func36 rfl Tryz.call36 (yyd rfl) rfl fun M3 up3=>?_;refine few_in (Lf:=[(0,.lf (.optr 15000 []))]) (K:=KW) hb ha h1 hall ⟨ltk rfl,trivial⟩ (bdKW cs ms z st clk).2.2.2.2 rfl ?_;refine zK0 ?_;refine q1v (d0 q39 rfl rfl rfl trivial) rfl rfl ?_;refine q1v (r8 q39 rfl rfl rfl (ltk rfl) trivial) rfl rfl ?_;refine q0k [0,4] rfl rfl trivial Tryz.func127 rfl Tryz.call127 (yyd rfl) rfl fun M4 up4=>?_;refine zK0 ?_;refine JK.boxP rfl rfl trivial rfl ?_;refine zK6 ?_;refine n8 rfl rfl rfl rfl ?_;refine x7 (s':=⟨[(25,seqG),(0,.lf (.optr 15000 [])),(4,vTb (fewT (2 ^ ms.length-1) 1))],HB cs ms z st clk KW,15100⟩) (JW.low ⟨rfl,rfl,rfl,trivial⟩ (subH.refl _) ⟨⟨trivial,ltk rfl,trivial⟩,ltk rfl,trivial,trivial⟩ (bdKW cs ms z st clk)) ?_;refine q0k [0,4] rfl rfl trivial Tryz.func126 rfl Tryz.call126 (yyd rfl) rfl fun M5 up5=>?_;refine z8i (Lf:=[(0,.lf (.optr 15000 [])),(4,vTb (fewT (2 ^ ms.length-1) 1))]) hb ha ⟨ltk rfl,trivial,trivial⟩ ?_;refine zK0 ?_;refine x7 (q3n 27 rfl rfl) ?_
 (repeat (first|refine zs rfl ?_|refine zc rfl (fn37 (cs:=cs) (ms:=ms) ha) rfl rfl ?_))
 have hk:List.getD (tbL (fewT (2 ^ ms.length-1) 1)) 0 0=0:=q5l (by omega);have hu:List.getD (tbL (fewT (2 ^ ms.length-1) 1)) (2 ^ ms.length-1) 0=1:=by rw[q5l (by omega),fewT,if_neg (by omega),if_pos ⟨by omega,rfl⟩]
 generalize hm:2 ^ ms.length-1=m at *;have hy:1≤m:=by omega
 have hA:m<4096:=by omega
 rw[hall];clear hd he;refine JK.loop (σ:=Bool) (fun b=>match b with|false=>⟨[(4,vTb (fewT m 1)),(5,.val (.slice (.int .u64)) [(m:Int)]),(6,.lf .nils),(7,vS64 m)],HB cs ms z st clk KW,15110⟩|true=>⟨[(6,.lf (.osl 15111)),(7,vS64 0)],(15111,.sl 86 (.int .u64) [(m:Int)])::(15110,.sl 86 (.int .u64) [(m:Int)])::HB cs ms z st clk KW,15112⟩) (fun _=>True) (fun b=>bif b then 0 else 1) false trivial (JW.same ⟨rfl,rfl,rfl,rfl,trivial⟩) fun b _=>?_;cases b with
 |false=>
  refine zK0 ?_;refine q9 rfl (fun _=>?_) (fun h=>absurd (show((m:Int) != 0)=false from h) (by simp;omega));refine zK0 ?_;refine JK.loop (fun _:Unit=>⟨[(4,vTb (fewT m 1)),(5,.val (.slice (.int .u64)) [(m:Int)]),(6,.lf .nils),(7,vS64 m),(8,vS64 0)],HB cs ms z st clk KW,15110⟩) (fun _=>True) (fun _=>0) () trivial (JW.same ⟨rfl,rfl,rfl,rfl,rfl,trivial⟩) fun _ _=>?_;refine zK0 ?_;refine q9 rfl (fun _=>?_) (fun h=>absurd (show decide ((0:Int)<(m:Int))=false from h) (by simp;omega));refine zK0 ?_;refine JK.loop (fun _:Unit=>⟨[(4,vTb (fewT m 1)),(5,.val (.slice (.int .u64)) [(m:Int)]),(36,.val (.slice (.int .u64)) [(m:Int)]),(37,vI 1),(38,vI 0),(6,.lf .nils),(7,vS64 m),(8,vS64 0)],HB cs ms z st clk KW,15110⟩) (fun _=>True) (fun _=>0) () trivial (JW.same ⟨rfl,rfl,rfl,rfl,rfl,rfl,rfl,rfl,trivial⟩) fun _ _=>?_;refine zK2 ?_;refine q9 rfl (fun _=>?_) (fun h=>absurd h (by decide));have hg:(List.getD (tbL (fewT m 1)) (Int.toNat ((0:Nat):Int)) (Ty.int .i64).dflt+1==List.getD (tbL (fewT m 1)) (Int.toNat (m:Int)) (Ty.int .i64).dflt)=true:=by
   have e1:List.getD (tbL (fewT m 1)) (Int.toNat ((0:Nat):Int)) (Ty.int .i64).dflt=0:=hk;have e2:List.getD (tbL (fewT m 1)) (Int.toNat (m:Int)) (Ty.int .i64).dflt=1:=by rw[Int.toNat_natCast];exact hu
   rw[e1,e2];rfl
  have hB:wantB true (List.getD (tbL (fewT m 1)) (Int.toNat ((0:Nat):Int)) (Ty.int .i64).dflt+1==List.getD (tbL (fewT m 1)) (Int.toNat (m:Int)) (Ty.int .i64).dflt)=true:=by rw[hg];rfl
  refine zK2 ?_;refine u9 (s':=⟨[(10,vS64 m),(4,vTb (fewT m 1)),(6,.lf .nils),(7,vS64 m),(8,vS64 0)],HB cs ms z st clk KW,15110⟩) (JW.same ⟨rfl,rfl,rfl,rfl,rfl,trivial⟩) ?_;refine zK0 ?_;have hv:(bif List.getD (tbL (fewT m 1)) (Int.toNat ((0:Nat):Int)) (Ty.int .i64).dflt+1==List.getD (tbL (fewT m 1)) (Int.toNat (m:Int)) (Ty.int .i64).dflt then((((Int.toNat ((0:Nat):Int)) ||| (Int.toNat (m:Int)):Nat):Int)==(m:Int)) else false)=true:=by rw[hg,cond_true];simp
  refine q9 rfl (fun _=>?_) (fun h=>absurd (hv.symm.trans h) (by decide));refine zK0 ?_;exact⟨true,JW.same ⟨rfl,rfl,trivial⟩,trivial,by decide⟩
 |true=>refine zK0 ?_;refine q9 rfl (fun h=>absurd h (by decide)) (fun _=>?_);refine z6q (H':=HB cs ms z st clk KW) (L':=[]) (nx':=15110) 15111 6 rfl rfl trivial (subH.cons (subH.cons (subH.refl _) (bdKW cs ms z st clk) (yyd rfl)) (bdKW cs ms z st clk) (yyd rfl)) rfl trivial (d9 (by omega) (bdKW cs ms z st clk)) ?_;refine zK0 ?_;exact n8 rfl rfl rfl rfl k
abbrev fn32v:AV:=.fn 32 .anil .anil
set_option maxRecDepth 20000 in
def fn128(x:TwD):Ox.Fn Tryz.prog 128 (.acons (.val (.slice twT) [x]) (.acons (vI 0) (.acons (vI 1) (.acons fn32v .anil)))) (·=.tup .anil):=by refine zI Tryz.func128 rfl Tryz.call128 rfl fun E M0 up=>?_;refine zK0 ?_;refine JK.loop (fun _:Unit=>⟨[(8,vI 1),(2,vI 1)],[],0⟩) (fun _=>True) (fun _=>0) () trivial (by exact zJ) fun _ _=>?_;refine zK0 ?_;refine q9 rfl (fun h=>absurd h (by decide)) (fun _=>?_);refine zK0 ?_;exact k7 ⟨.inr rfl,_,_,rfl,trivial,rfl⟩
set_option maxRecDepth 20000 in
def fn63(x:TwD)(n:Int):Ox.Fn Tryz.prog 63 (.acons (.val (.slice twT) [x]) (.acons (vI 0) (.acons (vI 1) (.acons (vI n) (.acons fn32v .anil))))) (·=.tup .anil):=by
 refine zI Tryz.func63 rfl Tryz.call63 rfl fun E M0 up=>?_;refine zK0 ?_;refine JK.loop (fun _:Unit=>⟨[(0,.val (.slice twT) [x]),(1,vI 0),(2,vI 1),(3,vI n),(4,fn32v)],[],0⟩) (fun _=>True) (fun _=>0) () trivial (by exact zJ) fun _ _=>?_;refine zK0 ?_;refine q9 rfl (fun _=>?_) (fun h=>absurd h (by decide))
 (repeat (first|refine zs rfl ?_|refine n4 ?_|refine zc rfl (fn128 x) rfl rfl ?_))
 exact⟨.inl rfl,_,_,rfl,trivial,rfl⟩
set_option maxRecDepth 20000 in
def fn31(x:TwD):Ox.Fn Tryz.prog 31 (.acons (.val (.slice twT) [x]) (.acons fn32v .anil)) (·=.tup .anil):=by
 refine zI Tryz.func31 rfl Tryz.call31 rfl fun E M0 up=>?_;refine zK0 ?_;refine JK.cl rfl (fn64 1 (by omega)) rfl (fun r hr=>?_) trivial;obtain⟨n,h1,h2,rfl⟩:=hr
 (repeat (first|refine zs rfl ?_|refine zc rfl (fn63 x n) rfl rfl ?_))
 exact k7 ⟨.inr rfl,_,_,rfl,trivial,rfl⟩
def mGet_one{kt vt:Ty}{k:kt.den}{v d:vt.den}{st:Nat}:mGet [(k,v,st)] k d=v:=by
 have h:mIdx (vt:=vt) [(k,v,st)] k=some 0:=by unfold mIdx;simp[List.findIdx?_cons,y7.2 (rfl:k=k)]
 unfold mGet;rw[h];rfl
def subH_hd{x:Nat×HO}{H H':List (Nat×HO)}(h:subH H H'):subH (x::H) (x::H'):=fun l q hq=>by
 obtain⟨m,o⟩:=x;simp only[lk] at hq ⊢;by_cases e:m=l
 ·rw[if_pos e] at hq ⊢;exact hq
 ·rw[if_neg e] at hq ⊢;exact h l q hq
set_option maxRecDepth 20000 in
set_option maxHeartbeats 2000000 in
def fn11(hs:okSt cs ms)(hz:rwAll cs ms=[z])(hall:mkM cs ms z=2 ^ ms.length-1):Ox.Fn Tryz.prog 11 (.acons (.val shT (mkS cs ms)) .anil) (·=.tup (.acons (.val (.slice twT) [z]) (.acons (vI 0) .anil))):=by
 refine zI Tryz.func11 rfl Tryz.call11 rfl fun E M0 up=>?_;refine zK0 ?_;refine q70 rfl (fo29 hs hz hall) (yyd rfl) (j2k (by decide)) rfl trivial (fun r H' nx' hQ=>?_);obtain⟨rfl,_,rfl,st,clk,hd,rfl⟩:=hQ;refine zK0 ?_;refine q9 rfl (fun h=>absurd h (by decide)) (fun _=>?_);refine zK0 ?_;refine x7 (s':=⟨[(16,.lf (.optr 15000 []))],HB cs ms z st clk [],15010⟩) (JW.low ⟨rfl,trivial⟩ (fun l q hq=>by
  rcases yyk.1 (w5 hq) with h|h
  ·injection h with h1 h2;subst h1 h2;rfl
  rcases yyk.1 h with h|h
  ·injection h with h1 h2;subst h1 h2;rfl
  cases h) ⟨ltk rfl,trivial⟩ ⟨ltk rfl,trivial,ltk rfl,ltk rfl,trivial⟩) ?_
 refine q0k [] rfl rfl trivial Tryz.func30 rfl Tryz.call30 (yyd rfl) rfl fun M1 up1=>?_;refine zK0 ?_;refine q0k [0,3] rfl rfl trivial Tryz.func62 rfl Tryz.call62 (yyd rfl) rfl fun M2 up2=>?_;refine u9 (s':=⟨[(0,.lf (.optr 15000 []))],HB cs ms z st clk KW,15012⟩) (JW.low ⟨rfl,trivial⟩ (fun l q hq=>by
  rcases yyk.1 (w5 hq) with h|h
  ·injection h with h1 h2;subst h1 h2;rfl
  rcases yyk.1 h with h|h
  ·injection h with h1 h2;subst h1 h2;rfl
  rcases yyk.1 h with h|h
  ·injection h with h1 h2;subst h1 h2;rfl
  rcases yyk.1 h with h|h
  ·injection h with h1 h2;subst h1 h2;rfl
  cases h) ⟨ltk rfl,trivial⟩ ⟨ltk rfl,trivial,ltk rfl,ltk rfl,ltk rfl,y6 ⟨ltk rfl,trivial,trivial⟩,ltk rfl,y6 trivial,trivial⟩) ?_
 refine ways_in hd hs.m12 hs.m1 hall ?_;refine zK0 ?_;have ha:bdH 15100 (HB cs ms z st clk [(15010,.fr 0 [])]):=⟨ltk rfl,trivial,ltk rfl,ltk rfl,ltk rfl,y6 trivial,trivial⟩;have hb:∀ o1 o2 o3:HO,subH ((15113,.sl 47 twT [z])::(15112,o1)::(15111,o2)::(15110,o3)::HB cs ms z st clk [(15010,.fr 0 [])]) ((15113,.sl 47 twT [z])::HB cs ms z st clk [(15010,.fr 0 [])]):=fun o1 o2 o3=>subH_hd (subH.cons (subH.cons (subH.cons (subH.refl _) ha (yyd rfl)) ha (yyd rfl)) ha (yyd rfl));refine JK.loop (σ:=Bool) (fun b=>match b with|false=>⟨[(0,.lf (.optr 15000 [])),(10,.val (.slice (.int .u64)) [((2 ^ ms.length-1:Nat):Int)]),(11,vI 1),(12,vI 0),(3,.lf .nils)],HB cs ms z st clk [(15010,.fr 0 [])],15110⟩|true=>⟨[(11,vI 1),(12,vI 1),(3,.lf (.osl 15113))],(15113,.sl 47 twT [z])::HB cs ms z st clk [(15010,.fr 0 [])],15114⟩) (fun _=>True) (fun b=>bif b then 0 else 1) false trivial (JW.same ⟨rfl,rfl,rfl,rfl,rfl,trivial⟩) fun b _=>?_;cases b with
 |false=>
  refine JK.ghost 3 47 twT rfl ?_;refine zK0 ?_;refine q9 rfl (fun _=>?_) (fun h=>absurd h (by decide));refine zK2 ?_;refine q1v (d0 q39 rfl rfl rfl trivial) rfl rfl ?_;refine q1v (r8 q39 rfl rfl rfl (ltk rfl) trivial) rfl rfl ?_;refine zs rfl ?_;refine zml z28 rfl rfl rfl rfl ?_;refine x7 (s':=⟨[(21,.val (.slice twT) [z]),(11,vI 1),(12,vI 0),(3,.lf (.osl 15110))],(15110,.sl 47 twT [])::HB cs ms z st clk [(15010,.fr 0 [])],15111⟩) (JW.same ⟨?_,rfl,rfl,rfl,trivial⟩) ?_
  ·show some (AV.val (.slice twT) (mGet (kt:=.int .u64) (vt:=.slice twT) [(((mkM cs ms z:Nat):Int),[z],st)] ((2 ^ ms.length-1:Nat):Int) []))=some (.val (.slice twT) [z]);rw[hall,mGet_one]
  refine zK2 ?_;refine q01 xk (Tryz.f30.body.getD .skip) rfl 10 rfl ?_
  (refine q7 0 xk rfl rfl (q7 1 xk rfl rfl (q7 2 xk rfl rfl (q7 3 xk rfl rfl (q7 4 xk rfl rfl (q7 5 xk rfl rfl (z6 6 xk rfl rfl (zU 7 xk rfl rfl ?_)))))));refine zK12 ?_;refine q8 ?_;refine zU 8 xk rfl rfl ?_;refine zK12 ?_;refine q8 ?_;refine q7 9 xk rfl rfl ?_;refine v7 xk StF.nil ?_;((refine zK0 ?_;exact⟨true,JW.low ⟨rfl,rfl,rfl,trivial⟩ (hb _ _ _) ⟨trivial,trivial,ltk rfl,trivial⟩ ⟨ltk rfl,trivial,d9 (by omega) ha⟩,trivial,by decide⟩)))
 |true=>
  refine zK0 ?_;refine q9 rfl (fun h=>absurd h (by decide)) (fun _=>?_);refine z6q (H':=HB cs ms z st clk [(15010,.fr 0 [])]) (L':=[]) (nx':=15100) 15113 3 rfl rfl trivial (subH.cons (subH.refl _) ha (yyd rfl)) rfl trivial ha ?_;refine zK0 ?_;refine n8 rfl rfl rfl rfl ?_
  (repeat (first|refine zs rfl ?_|refine zc rfl (fn31 z) rfl rfl ?_))
  have he:[z].length=(List.replicate (Int.toNat (([z].length:Nat):Int)) twT.dflt).length:=rfl;refine zs rfl ?_;refine q84 (H':=[]) (L':=[]) (nx':=0) 15100 7 rfl rfl trivial (fun l o h=>by cases h) rfl trivial trivial ?_;refine zK0 ?_;refine zR rfl trivial ?_;rfl
end Go.Proofs.YtjecebccchhmhaaGreatDoor.Cb
