/- Texts of the proof of the statement that the last text proves. -/
import Derived.Test.YtcijjbccigbflaaGreatDoorPrf
set_option linter.all false
set_option maxHeartbeats 2000000
variable{w1:Go.World}{c1 c2 cs cs1 cs2 cs3:List Prop}{K d u v:Int}{args:Array Go.Operand}{eid t t':Go.TypeId}{B l o ot xs:List Int}{a c clk i j k left lies m n:Nat}{fo x y:Go.Operand}{f:Go.FuncId}{b g:Bool}{p:Nat→Int}{bf:Nat→Nat}{α:Type}{P:Nat→Nat→Bool}
namespace Ox
open Go Go.RowKit Ox.Rn
variable {X:Ctx}{M:Mem}{ρ:Env}{a:Act}{w w':World}{QA:Exit→S→Prop}{all l:List Oper}{L:List (Nat×AV)}{H:List (Nat×HO)}{nx d:Nat}{ty:TypeId}{ps:String}{af:Array Edge}{s:S}{o:Oper}{md:Bool}
variable{P:Program}{k:IntKind}
def run_remT{a b:Int}(hb:b≠0):(Op.intDiv .rem k a b).run P w=.ok (.int k (Int.tmod a b)) w:=by simp only[Op.intDiv,if_neg hb,yyf]
def JL.remT(hu:opd L x=some (c1,.val (.int k) u))(hv:opd L y=some (c2,.val (.int k) v))(h1:allP c1)(h2:allP c2)(hb:v≠0)(hd:ltB d X.n=true)
  (kk:JL X true all QA l ⟨(d,.val (.int k) (Int.tmod u v))::L,H,nx⟩):JL X true all QA (⟨some d,.binOp .rem t x y t',ty,ps,af,none⟩::l) ⟨L,H,nx⟩:=by
 refine q1j rfl rfl (w7 hd) (v:=.val (.int k) (Int.tmod u v)) (s':=⟨L,H,nx⟩) (fun M ρ a w k1 k2=>?_) kk;have e1:=(z8 (s:=⟨L,H,nx⟩) hu h1 k2).2;have e2:=(z8 (s:=⟨L,H,nx⟩) hv h2 k2).2;rw[w9] at e1 e2;refine⟨ρ,w,.value (.int k (Int.tmod u v)),?_,Env.upTo.refl _ _,yyn _,rfl,k1,trivial,.inl ⟨_,rfl,w9.2 rfl⟩⟩;simp only[execOp,e1,e2,yye,x7,yyb,binOp,if_neg (fun h:k≠k=>h rfl)];rw[run_remT hb];rfl
def JK.remT{r:List Fr}{t t':TypeId}{x y:Operand}{c1 c2:List Prop}{k:IntKind}{u v:Int}(hu:opd L x=some (c1,.val (.int k) u))(hv:opd L y=some (c2,.val (.int k) v))(h1:allP c1)(h2:allP c2)(hb:v≠0)(hd:ltB d X.n=true)
  (kk:JK X (.ops true all l::r) QA ⟨(d,.val (.int k) (Int.tmod u v))::L,H,nx⟩):JK X (.ops true all (⟨some d,.binOp .rem t x y t',ty,ps,af,none⟩::l)::r) QA ⟨L,H,nx⟩:=JL.remT hu hv h1 h2 hb hd kk
variable{gs:List Gt}
def z5u{M N:Mem}(h:Laid gs M)(k:∀ b o,M b=some o→N b=some o):Laid gs N:=fun q hq=>by obtain⟨cs,ty,fz,e1,e2⟩:=h q hq;exact⟨cs,ty,fz,k _ _ e1,e2⟩
variable{r:AV}
def z3q(h:callA X.T o.op s=some (cs,f,.anil))(hf:FnZ (Laid gs) X.P f r.toV)(hz:Laid gs X.M0)(hc:allP cs)(h1:SAT X M ρ s w)(h2:REG X M ρ s a)(hw:Below w.heap.size w w1) :
  ∃ az,(execOp a.eval o).run X.P w1=.ok (.enter f az) w1∧Calls X.P f az w1 (fun e w'=>e=.returned r.toV∧Below w.heap.size w w'):=by
 obtain⟨hb,vs,hd,ha⟩:=n6 h1 (q33 h1) h2 h hc;simp only[AV.rvs] at hd;subst hd;refine⟨#[],by rw[ha,hf.call],(hf.run _ w1 (z5u hz fun b o e=>h1.mem b o (h1.msub b o e)) (q32 hw)).mono ?_⟩;rintro e w' ⟨rfl,he⟩;exact⟨rfl,hw.trans (he.mono hw.size)⟩
def JL.callZ(hg:o.guard=none)(h:callA X.T o.op s=some (cs,f,.anil))(hf:FnZ (Laid gs) X.P f r.toV)(hz:Laid gs X.M0)(hr:r.scal=true)(ha:r.bd 0)(hd:dstOk X.n o.dst)(hc:allP cs)
  (k:JL X true all QA l (putS o.dst r s)):JL X true all QA (o::l) s:=by
 intro M ρ a w h1 h2;obtain⟨az,e1,e2⟩:=z3q h hf hz hc h1 h2 (Below.refl w.heap.size w);refine z9 (j8 hg) (x4 (q0p h) e1 e2 ?_);rintro e w' ⟨rfl,hb⟩;exact⟨_,rfl,k M ρ _ w' (j6 (h1.later hb)) (h2.putO hd.spec (j9 (yyu _) ha) ((x3 hr).2 rfl))⟩
def j4i(hg:gOf all s.L o.guard=some g)(ha:g=true)(h:callA X.T o.op s=some (cs,f,.anil))(hf:FnZ (Laid gs) X.P f r.toV)(hz:Laid gs X.M0)(hr:r.scal=true)(hb:r.bd 0)(hd:dstOk X.n o.dst)(hc:allP cs)
  (k:JL X true all QA l (putS o.dst r s)):JL X true all QA (o::l) s:=by
 subst ha;intro M ρ a w h1 h2;have hw:=m9 hg h2;obtain⟨az,e1,e2⟩:=z3q h hf hz hc h1 h2 (Below.refl w.heap.size w);refine z9 hw (x4 (q0p h) e1 e2 ?_);rintro e w' ⟨rfl,he⟩;exact⟨_,rfl,k M ρ _ w' (j6 (h1.later he)) (h2.putO hd.spec (j9 (yyu _) hb) ((x3 hr).2 rfl))⟩
variable {op:Op}
variable{fr:List Fr}
def q7u(h:callA X.T op ⟨L,H,nx⟩=some (cs,f,.anil))(hf:FnZ (Laid gs) X.P f (.bool b))(hz:Laid gs X.M0)(hd:ltB d X.n=true)(hc:allP cs)
  (k:JK X (.ops true all l::fr) QA ⟨(d,(.val .bool b))::L,H,nx⟩):JK X (.ops true all (⟨some d,op,ty,ps,af,none⟩::l)::fr) QA ⟨L,H,nx⟩:=
 JL.callZ (r:=(.val .bool b)) rfl h hf hz rfl trivial (w7 hd) hc k
def q3x{gg:Nat×Bool}(hg:gOf all L (some gg)=some g)(ha:g=true)(h:callA X.T op ⟨L,H,nx⟩=some (cs,f,.anil))(hf:FnZ (Laid gs) X.P f (.bool b))(hz:Laid gs X.M0)(hd:ltB d X.n=true)(hc:allP cs)
  (k:JK X (.ops true all l::fr) QA ⟨(d,(.val .bool b))::L,H,nx⟩):JK X (.ops true all (⟨some d,op,ty,ps,af,some gg⟩::l)::fr) QA ⟨L,H,nx⟩:=
 j4i (r:=(.val .bool b)) (s:=⟨L,H,nx⟩) hg ha h hf hz rfl trivial (w7 hd) hc k
def run_quoT{a b:Int}(hb:b≠0)(h1:inK k (Int.tdiv a b)):(Op.intDiv .quo k a b).run P w=.ok (.int k (Int.tdiv a b)) w:=by simp only[Op.intDiv,if_neg hb,yyf];rw[d9 h1]
def JL.quoT(hu:opd L x=some (c1,.val (.int k) u))(hv:opd L y=some (c2,.val (.int k) v))(h1:allP c1)(h2:allP c2)(hb:v≠0)(hk:inK k (Int.tdiv u v))(hd:ltB d X.n=true)
  (kk:JL X true all QA l ⟨(d,.val (.int k) (Int.tdiv u v))::L,H,nx⟩):JL X true all QA (⟨some d,.binOp .quo t x y t',ty,ps,af,none⟩::l) ⟨L,H,nx⟩:=by
 refine q1j rfl rfl (w7 hd) (v:=.val (.int k) (Int.tdiv u v)) (s':=⟨L,H,nx⟩) (fun M ρ a w k1 k2=>?_) kk;have e1:=(z8 (s:=⟨L,H,nx⟩) hu h1 k2).2;have e2:=(z8 (s:=⟨L,H,nx⟩) hv h2 k2).2;rw[w9] at e1 e2;refine⟨ρ,w,.value (.int k (Int.tdiv u v)),?_,Env.upTo.refl _ _,yyn _,rfl,k1,trivial,.inl ⟨_,rfl,w9.2 rfl⟩⟩;simp only[execOp,e1,e2,yye,x7,yyb,binOp,if_neg (fun h:k≠k=>h rfl)];rw[run_quoT hb hk];rfl
def JK.quoT{r:List Fr}{t t':TypeId}{x y:Operand}{c1 c2:List Prop}{k:IntKind}{u v:Int}(hu:opd L x=some (c1,.val (.int k) u))(hv:opd L y=some (c2,.val (.int k) v))(h1:allP c1)(h2:allP c2)(hb:v≠0)(hk:inK k (Int.tdiv u v))(hd:ltB d X.n=true)
  (kk:JK X (.ops true all l::r) QA ⟨(d,.val (.int k) (Int.tdiv u v))::L,H,nx⟩):JK X (.ops true all (⟨some d,.binOp .quo t x y t',ty,ps,af,none⟩::l)::r) QA ⟨L,H,nx⟩:=JL.quoT hu hv h1 h2 hb hk hd kk
def down_eq(a b:Int)(hb:0<b):Int.tdiv (a-Int.tmod (Int.tmod a b+b) b) b=a / b:=by
 have e:Int.tmod (Int.tmod a b+b) b=a % b:=by
  have h1:=Int.tmod_lt_of_pos a hb;have h2:-b<Int.tmod a b:=by have:=Int.lt_tmod_of_pos a hb;omega
  rw[Int.tmod_eq_emod_of_nonneg (by omega),Int.add_emod_right];have h3:=Int.mul_tdiv_add_tmod a b;have h4:(Int.tmod a b)=a+b*(-(Int.tdiv a b)):=by rw[Int.mul_neg];omega
  rw[h4,Int.add_mul_emod_self_left]
 rw[e];have h:=Int.mul_ediv_add_emod a b;have h5:a-a % b=b*(a / b):=by omega
 rw[h5,Int.mul_tdiv_cancel_left _ (by omega)]
end Ox
namespace Go.Proofs.YtcijjbccigbflaaGreatDoor.Ga
open Go Go.RowKit Ox Ox.Gl
attribute [local irreducible] JC JL JK JW
abbrev rgT:Ty:=.cons (.int .i64) (.cons (.int .i64) .nil)
abbrev coT:Ty:=.cons rgT (.cons (.int .i64) (.cons (.int .i64) .nil))
abbrev glT:Ty:=.cons (.int .i64) (.cons (.slice coT) (.cons (.slice prT) .nil))
abbrev vRg(r:RgD):AV:=.val rgT r
abbrev vCo(c:CoD):AV:=.val coT c
abbrev mkG(d:Int)(cs:List CoD)(ps:List (List Int)):glT.den:=(d,cs,ps,())
abbrev vG(d:Int)(cs:List CoD)(ps:List (List Int)):AV:=.val glT (mkG d cs ps)
def fn146(x lo hi:Int):Ox.Fn Tryz.prog 146 (.acons (vI x) (.acons (pI lo) (.acons (pI hi) .anil))) (·=vB (decide (x<lo∨x>hi))):=by refine Ox.Fn.intro xok Tryz.func146 rfl Tryz.call146 (yyc rfl) (fun E M0 up=>?_);refine JK.start ?_;refine zK0 ?_;refine zR rfl trivial ?_;by_cases h:x<lo<;>simp[h]
def fn105(lo hi:Int)(xs:List Int):Ox.Fn Tryz.prog 105 (.acons (vI lo) (.acons (vI hi) (.acons (vL xs) .anil))) (·=vB (decide (∀ x∈xs,lo≤x∧x≤hi))):=by
 refine Ox.Fn.intro xok Tryz.func105 rfl Tryz.call105 (yyc rfl) (fun E M0 up=>?_);refine JK.start ?_
 (repeat (first|refine zs rfl ?_|refine n3 ?_|refine zc rfl (fn54 xs (fun x=>decide (x<lo∨x>hi)) (fun x _=>fn146 x lo hi)) rfl rfl ?_))
 refine zR rfl trivial ?_;refine congrArg vB ?_;rw[yy1];simp only[yyz,List.any_eq_false,yyr];refine⟨fun h x hx=>?_,fun h x hx=>?_⟩
 ·have:=h x hx;omega
 ·have:=h x hx;omega
def z7d{lo hi:Int}(hb:b=true)(h:∀ x∈xs,lo≤x∧x≤hi):Ox.Fn Tryz.prog 105 (.acons (vI lo) (.acons (vI hi) (.acons (vL xs) .anil))) (·=vB b):=by have:=fn105 lo hi xs;rw[decide_eq_true h,← hb] at this;exact this
def div_bd(a b:Int)(h0:1≤b∧b≤1000)(h1:-100000≤a∧a≤100000):-102000≤a / b∧a / b≤102000:=by
 have h5:=Int.mul_ediv_add_emod a b;have h6:=Int.emod_nonneg a (show b≠0 by omega);have h7:=Int.emod_lt_of_pos a (show 0<b by omega);constructor
 ·refine Int.not_lt.1 fun hc=>?_;have:b*(a / b)≤1*(a / b):=Int.mul_le_mul_of_nonpos_right (by omega) (by omega);omega
 ·refine Int.not_lt.1 fun hc=>?_;have:1*(a / b)≤b*(a / b):=Int.mul_le_mul_of_nonneg_right (by omega) (by omega);omega
def fn109(a b:Int)(h0:1≤b∧b≤1000)(h1:-100000≤a∧a≤100000):Ox.Fn Tryz.prog 109 (.acons (vI a) (.acons (vI b) .anil)) (·=vI (a / b)):=by
 refine Ox.Fn.intro xok Tryz.func109 rfl Tryz.call109 (yyc rfl) (fun E M0 up=>?_);refine JK.start ?_;have e:=down_eq a b (by omega);have t1:=Int.tmod_lt_of_pos a (show 0<b by omega);have t2:-b<Int.tmod a b:=by have:=Int.lt_tmod_of_pos a (show 0<b by omega);omega
 have t3:=Int.tmod_lt_of_pos (Int.tmod a b+b) (show 0<b by omega);have t4:0≤Int.tmod (Int.tmod a b+b) b:=Int.tmod_nonneg _ (by omega);have q1:=div_bd a b h0 h1;have hb:b≠0:=by omega
 have e2:Int.tmod (Int.tmod a b+b) b=(Int.tmod a b+b) % b:=Int.tmod_eq_emod_of_nonneg (by omega);rw[e2] at e t3 t4;have hq:inK .i64 (Int.tdiv (a-(Int.tmod a b+b) % b) b):=by rw[e];show -9223372036854775808≤_∧_≤9223372036854775807;omega
 rw[← e];refine zK0 ?_;refine JK.remT (t':=_) rfl rfl trivial trivial hb rfl ?_;generalize Int.tmod a b=u at *;refine zK0 ?_;generalize (u+b) % b=m at *;refine JK.quoT (t':=_) rfl rfl trivial trivial hb hq rfl ?_;refine zK0 ?_;refine zR rfl trivial ?_;rfl
abbrev wiT:Ty:=.arr 10 rgT
abbrev bfT:Ty:=.arr 10 (.int .u64)
abbrev sfT:Ty:=.cons glT (.cons wiT (.cons bfT .nil))
abbrev mkF(d:Int)(cs:List CoD)(ps:List (List Int))(W:List RgD)(B:List Int):sfT.den:=(mkG d cs ps,W,B,())
abbrev vF(d:Int)(cs:List CoD)(ps:List (List Int))(W:List RgD)(B:List Int):AV:=.val (.ptr sfT) (some (mkF d cs ps W B))
abbrev vS64(n:Nat):AV:=.val (.int .u64) (n:Int)
def q08(h:n≤10):1≤(2:Int) ^ n∧(2:Int) ^ n≤1024∧((2 ^ n:Nat):Int)=(2:Int) ^ n:=by
 have h1:=z2p h;have h2:0<2 ^ n:=Nat.two_pow_pos n;have h3:((2 ^ n:Nat):Int)=(2:Int) ^ n:=by rw[Int.natCast_pow];rfl
 omega
def vS_or(f c:Nat):vS64 (f ||| 2 ^ c)=AV.val (.int .u64) (((((f:Nat):Int).toNat ||| ((1:Int)*2 ^ (Int.toNat (c:Int))).toNat:Nat)):Int):=by rw[Int.toNat_natCast,Int.toNat_natCast,q3i]
def vS_not(x y:Nat):vS64 (x ^^^ (x &&& y))=AV.val (.int .u64) (((((x:Nat):Int).toNat ^^^ (((x:Nat):Int).toNat &&& ((y:Nat):Int).toNat):Nat)):Int):=by rw[Int.toNat_natCast,Int.toNat_natCast]
def fn64(d:Int)(cs:List CoD)(ps:List (List Int))(W:List RgD)(B:List Int)(hn:cs.length≤10):Ox.Fn Tryz.prog 64 (.acons (vF d cs ps W B) .anil) (·=vS64 (2 ^ cs.length-1)):=by refine Ox.Fn.intro xok Tryz.func64 rfl Tryz.call64 (yyc rfl) (fun E M0 up=>?_);refine JK.start ?_;obtain⟨h1,h2,h3⟩:=q08 hn;have h4:0<2 ^ cs.length:=Nat.two_pow_pos _;refine zK0 ?_;refine zR rfl trivial ?_;refine congrArg (AV.val (.int .u64)) ?_;show(1:Int)*2 ^ (Int.toNat (cs.length:Int))-1=_;rw[Int.toNat_natCast];omega
variable{cs:List CoD}
def fn62{ps:List (List Int)}(h:VG d cs ps):Ox.Fn Tryz.prog 62 (.acons (vG d cs ps) .anil) (·=vF d cs ps (winL d cs) (befL ps)):=by
 refine Ox.Fn.intro xok Tryz.func62 rfl Tryz.call62 (yyc rfl) (fun E M0 up=>?_);refine JK.start ?_;have hB:=h.n1;have hj:=h.n10;have hk:=h.p40;have hC:=h.d1;have hh:=h.d100;refine zK0 ?_;refine JK.loop (fun i:Nat=>⟨[(1,.lf (.optr 0 [])),(3,.lf (.optr 1 [])),(12,.val (.slice coT) cs),(13,vI cs.length),(14,vI (i:Int))],[(0,.cell glT (vG d cs ps)),(1,.cell sfT (.val sfT (mkF d cs ps (winS d cs.length cs i) (List.replicate 10 0))))],2⟩) (fun i=>i≤cs.length) (fun i=>cs.length-i) 0 (yyu _) (by exact zJ) fun i hi=>?_;have ha:winS d cs.length cs (i+1)=(winS d cs.length cs i).set i (winD d cs.length (cs.getD i coZ)):=rfl;have he:=q0w (d:=d) (cs:=cs) cs.length i;have hl:=fun q:i<cs.length=>z0v h q;have hb:i=cs.length→winS d cs.length cs i=winL d cs:=fun e=>by rw[e];rfl
 generalize winS d cs.length cs i=W at ha he hb ⊢;refine zK0 ?_;refine q9 rfl (fun hc=>?_) (fun hc=>?_)
 ·replace hc:=zC hc;have hd:i<cs.length:=by omega
  have hz:cs.getD (Int.toNat (i:Int)) coT.dflt=cs.getD i coZ:=rfl;obtain⟨⟨k1,k2,k3⟩,k4,k5,k6⟩:=hl hd;refine zK1 ?_;rw[hz];generalize cs.getD i coZ=c at ha k1 k2 k3 k4 k5 k6 ⊢;obtain⟨⟨u,v,_⟩,x,y,_⟩:=c;replace k1:0≤u:=k1;replace k2:u≤v:=k2;replace k3:v≤1000:=k3;replace k4:0≤x:=k4;replace k5:x≤y:=k5;replace k6:y≤1000:=k6;have c1:=fn109 (y-v) d (by omega) (by omega);have c2:=fn109 (u-x) d (by omega) (by omega);have hw:winD d cs.length ((u,v,()),x,y,())=(max 0 (0-((y-v) / d)),min ((cs.length:Int)-1) ((u-x) / d),()):=by rw[Int.zero_sub];rfl
  rw[hw] at ha;have b1:=div_bd (y-v) d (by omega) (by omega);generalize (y-v) / d=q1 at c1 ha b1;generalize (u-x) / d=q2 at c2 ha;refine q4h xk (Tryz.f62.body.getD .skip) ⟨[(1,.lf (.optr 0 [])),(3,.lf (.optr 1 [])),(12,.val (.slice coT) cs),(13,vI cs.length),(14,vI (i:Int))],[(0,.cell glT (vG d cs ps)),(1,.cell sfT (.val sfT (mkF d cs ps (W.set i (max 0 (0-q1),min ((cs.length:Int)-1) q2,())) (List.replicate 10 0))))],2⟩ rfl 32 rfl ?_ ?_
  ·(refine q7 0 xk rfl rfl (q7 1 xk rfl rfl (q7 2 xk rfl rfl (q7 4 xk rfl rfl (q7 5 xk rfl rfl (q7 8 xk rfl rfl (q7 13 xk rfl rfl (q7 17 xk rfl rfl (q7 18 xk rfl rfl (q7 20 xk rfl rfl (q7 23 xk rfl rfl (q7 28 xk rfl rfl (q7 29 xk rfl rfl (z7 3 xk rfl rfl (z7 6 xk rfl rfl (z7 7 xk rfl rfl (z7 9 xk rfl rfl (z7 14 xk rfl rfl (z7 15 xk rfl rfl (z7 16 xk rfl rfl (z7 19 xk rfl rfl (z7 21 xk rfl rfl (z7 22 xk rfl rfl (z7 24 xk rfl rfl (zU 10 xk rfl rfl ?_))))))))))))))))))))))));refine zK12 ?_;refine q8 ?_;refine q7 11 xk rfl rfl (q7 12 xk rfl rfl (zU 25 xk rfl rfl ?_));refine zK12 ?_;refine q8 ?_;refine z7 26 xk rfl rfl (zU 27 xk rfl rfl ?_);refine zK10 ?_;refine q8 ?_;refine z7 30 xk rfl rfl (zU 31 xk rfl rfl ?_);refine zK2 ?_;refine q8 ?_;refine v6 xk StF.nil ?_;(exact zJ))
  rw[← ha];refine zK0 ?_;exact⟨i+1,by exact zJ,by omega,by omega⟩
 ·replace hc:=zC hc;rw[hb (by omega)];generalize winL d cs=W;have hu:=h.pr;refine zK0 ?_;refine JK.loop (fun i:Nat=>⟨[(1,.lf (.optr 0 [])),(3,.lf (.optr 1 [])),(56,.val (.slice prT) ps),(57,vI ps.length),(58,vI (i:Int))],[(0,.cell glT (vG d cs ps)),(1,.cell sfT (.val sfT (mkF d cs ps W (befL (ps.take i)))))],2⟩) (fun i=>i≤ps.length) (fun i=>ps.length-i) 0 (yyu _) (by exact zJ) fun i hi=>?_;have ha:=fun q:i<ps.length=>q7l ps q (z:=prT.dflt) (j7 ps q _);have hv:=z3v h i;have hg:=z5r h i;have hb:i=ps.length→befL (ps.take i)=befL ps:=fun e=>by rw[e,yx3]
  generalize befL (ps.take i)=B at ha hv hg hb ⊢;refine zK0 ?_;refine q9 rfl (fun hc=>?_) (fun hc=>?_)
  ·replace hc:=zC hc;have hd:i<ps.length:=by omega
   have hz:ps.getD (Int.toNat (i:Int)) prT.dflt=ps.getD i prT.dflt:=rfl;replace ha:=ha hd;have hp:=hu (ps.getD i prT.dflt) (by rw[j7 ps hd];exact yy3 hd);refine zK1 ?_;rw[hz];generalize ps.getD i prT.dflt=p at ha hp ⊢;obtain⟨⟨k1,k2⟩,⟨k3,k4⟩,_⟩:=hp;have e0:p.getD (Int.toNat 0) (Ty.int .i64).dflt=z0 p:=rfl;have e1:p.getD (Int.toNat 1) (Ty.int .i64).dflt=z1 p:=rfl;have hq:befS B p=B.set (z1 p).toNat (((B.getD (z1 p).toNat 0).toNat ||| (1*2 ^ (z0 p).toNat:Int).toNat:Nat):Int):=rfl;rw[hq] at ha;have hy:=hg (z1 p).toNat;have hA:=q08 (n:=(z0 p).toNat) (by omega);rw[← e0] at k1 k2 hA ha;rw[← e1] at k3 k4 hy ha;clear hq e0 e1 hg;refine q4h xk (Tryz.f62.body.getD .skip) ⟨[(1,.lf (.optr 0 [])),(3,.lf (.optr 1 [])),(56,.val (.slice prT) ps),(57,vI ps.length),(58,vI (i:Int))],[(0,.cell glT (vG d cs ps)),(1,.cell sfT (.val sfT (mkF d cs ps W (befL (ps.take (i+1))))))],2⟩ rfl 15 rfl ?_ ?_
   ·rw[ha]
    (refine q7 0 xk rfl rfl (q7 1 xk rfl rfl (q7 3 xk rfl rfl (q7 4 xk rfl rfl (q7 7 xk rfl rfl (q7 11 xk rfl rfl (q7 12 xk rfl rfl (z7 2 xk rfl rfl (z7 5 xk rfl rfl (z7 6 xk rfl rfl (z7 8 xk rfl rfl (z7 9 xk rfl rfl (z7 10 xk rfl rfl (z7 13 xk rfl rfl (zU 14 xk rfl rfl ?_))))))))))))));exact zB3)
   refine zK0 ?_;exact⟨i+1,by exact zJ,by omega,by omega⟩
  ·replace hc:=zC hc;rw[hb (by omega)]
   (refine z12 [1] [3] rfl ?_)
   refine zK0 ?_;refine zR rfl trivial ?_;rfl
def eqBf:EqT Tryz.prog bfT 81:=.of (by decide +kernel)
def fn36{ps:List (List Int)}(h:VG d cs ps)(W:List RgD):Ox.Fn Tryz.prog 36 (.acons (vF d cs ps W (befL ps)) .anil) (·=vB false):=by
 refine Ox.Fn.intro xok Tryz.func36 rfl Tryz.call36 (yyc rfl) (fun E M0 up=>?_);refine JK.start ?_;have hb:=h.n10;have hg:=h.bef;have hk:=h.bf_1024;have hh:=h.bef_len;have c84:=fn64 d cs ps W (befL ps) hb;have he:=fun l=>peel_lt (left:=l) h.nb (fun c a _=>q3q ps c a);have hv:=q08 hb;have hw:=z2p hb;generalize befL ps=B at hg hh c84 ⊢;generalize bfN ps=bf at hg hk he
 (repeat (first|refine zs rfl ?_|refine zeq eqBf rfl rfl rfl ?_))
 refine q9 rfl (fun hc=>?_) (fun hc=>?_)
 ·refine zK0 ?_;refine zR rfl trivial ?_;rfl
 clear hc
 (repeat (first|refine zs rfl ?_|refine zc rfl (c84) rfl rfl ?_))
 refine JK.loop (fun left:Nat=>⟨[(0,vF d cs ps W B),(3,vS64 left)],[],0⟩) (fun left=>left<2 ^ cs.length) (fun left=>left) (2 ^ cs.length-1) (by have:=Nat.two_pow_pos cs.length;omega) (by exact zJ) fun left hl=>?_;refine zK0 ?_;refine q9 rfl (fun hc=>?_) (fun hc=>?_)
 ·have h0:left≠0:=by simpa using hc
  have he:=he left h0 hl;clear hc;refine zK0 ?_;refine JK.loop (fun c:Nat=>⟨[(0,vF d cs ps W B),(3,vS64 left),(4,vS64 (freeM bf left c)),(21,vI cs.length),(22,vI (c:Int))],[],0⟩) (fun c=>c≤cs.length∧freeM bf left c<1024) (fun c=>cs.length-c) 0 ⟨yyu _,by simp[freeM]⟩ (by exact zJ) fun c ⟨hy,hj⟩=>?_;have hs:freeM bf left (c+1)=if left &&& 2 ^ c≠0∧bf c &&& left=0 then freeM bf left c ||| 2 ^ c else freeM bf left c:=rfl
  have ha:c=cs.length→freeM bf left c=freeM bf left cs.length:=fun e=>by rw[e]
  generalize freeM bf left c=f at hj hs ha ⊢;refine zK0 ?_;refine q9 rfl (fun hc=>?_) (fun hc=>?_)
  ·replace hc:=zC hc;have hz:c<cs.length:=by omega
   have hA:=q08 (n:=c) (by omega);have hp:=hg c;have hu:=hk c;have hC:left<1024:=by omega
   have e0:B.getD (Int.toNat (c:Int)) (Ty.int .u64).dflt=((bf c:Nat):Int):=hp;have hD:0≤B.getD (Int.toNat (c:Int)) (Ty.int .u64).dflt∧B.getD (Int.toNat (c:Int)) (Ty.int .u64).dflt<1024:=by rw[e0];omega
   have hB:(bif (((((left:Nat):Int).toNat &&& ((1:Int)*2 ^ (Int.toNat (c:Int))).toNat:Nat):Int) != 0) then((((B.getD (Int.toNat (c:Int)) (Ty.int .u64).dflt).toNat &&& ((left:Nat):Int).toNat:Nat):Int)==0) else false)=decide (left &&& 2 ^ c≠0∧bf c &&& left=0):=by
    rw[e0,Int.toNat_natCast,Int.toNat_natCast,Int.toNat_natCast,q3i,yy1];by_cases z:left &&& 2 ^ c=0
    ·simp[z]
    ·have z':(((left &&& 2 ^ c:Nat):Int) != 0)=true:=by simp;exact_mod_cast z
     rw[z',cond_true];simp[z]
   refine zK0 ?_;refine q9 rfl (fun hd=>?_) (fun hd=>?_)
   ·rw[if_pos (of_decide_eq_true (hB.symm.trans hd))] at hs;refine zK0 ?_;refine⟨c+1,?_,⟨by omega,?_⟩,by omega⟩
    ·rw[hs];rw[vS_or];exact zJ
    ·rw[hs];exact Nat.or_lt_two_pow (n:=10) hj (Nat.pow_lt_pow_right (by decide) (by omega))
   ·rw[if_neg (of_decide_eq_false (hB.symm.trans hd))] at hs;refine zK0 ?_;refine⟨c+1,?_,⟨by omega,by rw[hs];exact hj⟩,by omega⟩;rw[hs];exact zJ
  ·replace hc:=zC hc;replace ha:=ha (by omega);rw[← ha] at he;refine zK0 ?_;refine q9 rfl (fun hd=>?_) (fun hd=>?_)
   ·have:f=0:=by simpa using hd
    rw[this] at he;simp at he
   refine zK0 ?_;refine⟨left ^^^ (left &&& f),?_,by omega,he⟩;rw[vS_not];exact zJ
 ·refine zK0 ?_;refine zR rfl trivial ?_;rfl
def fn104(c:CoD)(h:okCo c):Ox.Fn Tryz.prog 104 (.acons (vCo c) .anil) (·=vB false):=by
 refine Ox.Fn.intro xok Tryz.func104 rfl Tryz.call104 (yyc rfl) (fun E M0 up=>?_);refine JK.start ?_;obtain⟨⟨u,v,_⟩,x,y,_⟩:=c;obtain⟨⟨k1,k2,k3⟩,k4,k5,k6⟩:=h;replace k1:0≤u:=k1;replace k2:u≤v:=k2;replace k3:v≤1000:=k3;replace k4:0≤x:=k4;replace k5:x≤y:=k5;replace k6:y≤1000:=k6;obtain⟨b,hb⟩:∃ b,b=true:=⟨true,rfl⟩;have c1:=z7d (lo:=0) (hi:=1000) (xs:=u::v::x::y::List.nil) hb (by simp;omega)
 (repeat (first|refine zs rfl ?_|refine zg rfl rfl rfl ?_|refine n3 ?_|refine zc rfl (c1) rfl rfl ?_))
 refine zR rfl trivial ?_;refine congrArg vB ?_;have h1:¬ v<u:=by omega
 have h2:¬ y<x:=by omega
 simp[hb,h1,h2]
def fn147(xs:List CoD)(p:CoD→Bool)(h:∀ x∈xs,Ox.Fn Tryz.prog f (.acons (vCo x) .anil) (·=vB (p x))) :
  Ox.Fn Tryz.prog 147 (.acons (.val (.slice coT) xs) (.acons (.fn f .anil .anil) .anil)) (·=vI (idxB p xs 0)):=by
 refine Ox.Fn.intro xok Tryz.func147 rfl Tryz.call147 (yyc rfl) (fun E M0 up=>?_);refine JK.start ?_;refine JK.lenOf 0 rfl fun hb=>?_;replace hb:xs.length≤9223372036854775807:=hb.1;refine zK0 ?_;refine JK.loop (fun i:Nat=>⟨[(0,.val (.slice coT) xs),(1,.fn f .anil .anil),(7,vI xs.length),(8,vI (i:Int))],[],0⟩) (fun i=>i≤xs.length∧idxB p xs 0=idxB p (xs.drop i) i) (fun i=>xs.length-i) 0 (by simp) (by exact zJ) fun i ⟨hi,hn⟩=>?_;refine zK0 ?_;refine q9 rfl (fun hc=>?_) (fun hc=>?_)
 ·replace hc:=zC hc;have ha:i<xs.length:=by omega
  have hx:=h (xs.getD i coZ) (by rw[j7 xs ha];exact yy3 ha);refine zK5 ?_;refine q9 rfl (fun hd=>?_) (fun hd=>?_)
  ·refine zK0 ?_;refine zR rfl trivial ?_;rw[j7 xs ha] at hd;rw[hn,yyx ha,idxB,if_pos hd]
  ·refine zK0 ?_;rw[j7 xs ha] at hd;refine⟨i+1,by exact zJ,⟨by omega,?_⟩,by omega⟩;rw[hn,yyx ha,idxB,if_neg (by rw[hd];simp)]
 ·replace hc:=zC hc;refine zK0 ?_;refine zR rfl trivial ?_;obtain rfl:i=xs.length:=by omega
  rw[hn,List.drop_length];rfl
def fn106(xs:List CoD)(p:CoD→Bool)(h:∀ x∈xs,Ox.Fn Tryz.prog f (.acons (vCo x) .anil) (·=vB (p x))) :
  Ox.Fn Tryz.prog 106 (.acons (.val (.slice coT) xs) (.acons (.fn f .anil .anil) .anil)) (·=vB (xs.any p)):=by
 refine Ox.Fn.intro xok Tryz.func106 rfl Tryz.call106 (yyc rfl) (fun E M0 up=>?_);refine JK.start ?_
 (repeat (first|refine zs rfl ?_|refine n3 ?_|refine zc rfl (fn147 xs p h) rfl rfl ?_))
 refine zR rfl trivial ?_;refine congrArg vB ?_;rw[yy1,← p6 (p:=p) (i:=0)];simp
set_option maxHeartbeats 4000000 in
def fn59{ps:List (List Int)}(h:VG d cs ps):Ox.Fn Tryz.prog 59 (.acons (vG d cs ps) .anil) (·=vI 0):=by
 refine Ox.Fn.intro xok Tryz.func59 rfl Tryz.call59 (yyc rfl) (fun E M0 up=>?_);refine JK.start ?_;have hp:=h.n1;have hk:=h.n10;have hl:=h.p40;have hu:=h.d1;have hg:=h.d100;obtain⟨b,hb⟩:∃ b,b=true:=⟨true,rfl⟩;have c1:=z7d (lo:=0) (hi:=9) (xs:=((cs.length:Int)-1)::List.nil) hb (by simp;omega);have c2:=z7d (lo:=1) (hi:=100) (xs:=d::List.nil) hb (by simp;omega);obtain⟨f,hf⟩:∃ f,f=false:=⟨false,rfl⟩;have c3:=fn106 (f:=104) cs (fun _=>false) fun x hx=>fn104 x (h.co x hx);have e3:(cs.any fun _=>false)=f:=by rw[hf];simp
 rw[e3] at c3;have c71:=fn62 h;have c120:=fn36 h (winL d cs)
 (repeat (first|refine zs rfl ?_|refine zg rfl rfl rfl ?_|refine zc rfl (c1) rfl rfl ?_))
 refine q9 rfl (fun hc=>absurd hc ?_) (fun _=>?_)
 ·have h1:¬ ((40:Int)<ps.length):=by omega
  simp[hb,h1]
 (repeat (first|refine zs rfl ?_|refine zg rfl rfl rfl ?_|refine zc rfl (c2) rfl rfl ?_|refine zk rfl rfl (fun _=>c3) rfl rfl ?_))
 refine q9 rfl (fun hc=>absurd hc ?_) (fun _=>?_)
 ·simp[hb,hf]
 refine zK0 ?_;refine JK.loop (fun i:Nat=>⟨[(1,.lf (.optr 0 [])),(4,vI ((cs.length:Int)-1)),(35,.val (.slice prT) ps),(36,vI ps.length),(37,vI (i:Int))],[(0,.cell glT (vG d cs ps))],1⟩) (fun i=>i≤ps.length) (fun i=>ps.length-i) 0 (yyu _) (by exact zJ) fun i hi=>?_;have hd:=fun q:i<ps.length=>h.pr (ps.getD i prT.dflt) (by rw[j7 ps q];exact yy3 q);have he:∀ q:i<ps.length,ps.getD i prT.dflt∉ps.take i:=fun q hm=>by rw[j7 ps q,List.mem_take_iff_getElem] at hm;obtain⟨j,hj,e⟩:=hm;have:=(List.nodup_iff_pairwise_ne.1 h.nd);exact(yx1.1 this j i (by omega) q (by omega)) e
 refine zK0 ?_;refine q9 rfl (fun hc=>?_) (fun hc=>?_)
 ·replace hc:=zC hc;have hh:i<ps.length:=by omega
  have hz:ps.getD (Int.toNat (i:Int)) prT.dflt=ps.getD i prT.dflt:=rfl;replace hd:=hd hh;replace he:=he hh;refine zK1 ?_;rw[hz];have c5:=fn107 (ps.take i) (ps.getD i prT.dflt);rw[decide_eq_false he,← hf] at c5;generalize ps.getD i prT.dflt=p at hd c5 ⊢;obtain⟨k1,k2,k3⟩:=hd;have c4:=z7d (lo:=0) (hi:=(cs.length:Int)-1) (xs:=z0 p::z1 p::List.nil) hb (by simp;omega);have hv:(0:Int)≤i∧(i:Int)≤ps.length:=by omega
  refine y5 xk (Tryz.f59.body.getD .skip) ⟨[(1,.lf (.optr 0 [])),(4,vI ((cs.length:Int)-1)),(35,.val (.slice prT) ps),(36,vI ps.length),(37,vI (i:Int)),(64,vB (bif (bif (z0 p==z1 p) then true else !b) then true else f))],[(0,.cell glT (vG d cs ps))],1⟩ rfl 23 rfl ?_ ?_
  ·have ha:wantB false (p.getD (Int.toNat 0) (Ty.int .i64).dflt==p.getD (Int.toNat 1) (Ty.int .i64).dflt)=true:=by show(!(z0 p==z1 p))=true;simpa using k3
   (refine q7 0 xk rfl rfl (q7 2 xk rfl rfl (z7 1 xk rfl rfl (z7 3 xk rfl rfl (z7 4 xk rfl rfl (z7 5 xk rfl rfl ?_)))));refine k8 6 [7,9] xk ?_ ?_;exact zS;refine(BrF.one rfl rfl ?_ (BrF.one rfl rfl ?_ (BrF.one rfl rfl ?_ BrF.nil)));(· (refine v4 xk rfl rfl rfl ?_);refine q8 ?_;refine z6 7 xk rfl rfl rfl (z6 9 xk rfl rfl rfl ?_);refine k8 8 [10] xk ?_ ?_;exact zS;refine(BrF.one rfl rfl ?_ (BrF.one rfl rfl ?_ BrF.nil));(· (refine v4 xk rfl rfl rfl ?_);refine q8 ?_;refine zU 10 xk rfl rfl ?_;(refine v4 xk rfl rfl rfl ?_);refine q8 ?_;refine zU 11 xk rfl rfl ?_;((refine z5v rfl ha ?_;refine r8 xk rfl rfl ?_));refine q8 ?_;refine zU 12 xk rfl rfl ?_;refine zK4 ?_;refine q8 ?_;refine z6 13 xk rfl rfl rfl (q7 14 xk rfl rfl (q7 15 xk rfl rfl (z6 16 xk rfl rfl rfl (z6 18 xk rfl rfl rfl ?_))));refine k8 17 [20] xk ?_ ?_;exact zS;refine(BrF.one rfl rfl ?_ (BrF.one rfl rfl ?_ BrF.nil));(· (refine v4 xk rfl rfl rfl ?_);refine q8 ?_;refine z6 19 xk rfl rfl rfl (zU 20 xk rfl rfl ?_);(refine v4 xk rfl rfl rfl ?_);refine q8 ?_;refine zU 21 xk rfl rfl ?_;refine zK4 ?_;refine q8 ?_;refine q7 22 xk rfl rfl ?_;refine v6 xk ?_ ?_;exact zS;(exact zJ));(· (refine v4 xk rfl rfl rfl ?_);refine q8 ?_;refine zU 17 xk rfl rfl ?_;(refine v4 xk rfl rfl rfl ?_);refine q8 ?_;refine z6 19 xk rfl rfl rfl (zU 21 xk rfl rfl ?_);exact zB2));(· (refine v4 xk rfl rfl rfl ?_);refine q8 ?_;refine zU 8 xk rfl rfl ?_;(refine v4 xk rfl rfl rfl ?_);refine q8 ?_;refine zU 11 xk rfl rfl ?_;((refine z5v rfl ha ?_;refine r8 xk rfl rfl ?_));refine q8 ?_;refine zU 12 xk rfl rfl ?_;refine zK4 ?_;refine q8 ?_;refine z6 13 xk rfl rfl rfl (q7 14 xk rfl rfl (q7 15 xk rfl rfl (z6 16 xk rfl rfl rfl (z6 18 xk rfl rfl rfl ?_))));refine k8 17 [20] xk ?_ ?_;exact zS;refine(BrF.one rfl rfl ?_ (BrF.one rfl rfl ?_ BrF.nil));(· (refine v4 xk rfl rfl rfl ?_);refine q8 ?_;refine z6 19 xk rfl rfl rfl (zU 20 xk rfl rfl ?_);(refine v4 xk rfl rfl rfl ?_);refine q8 ?_;refine zU 21 xk rfl rfl ?_;refine zK4 ?_;refine q8 ?_;refine q7 22 xk rfl rfl ?_;refine v6 xk ?_ ?_;exact zS;(exact zJ));exact zB5));(· (refine v4 xk rfl rfl rfl ?_);refine q8 ?_;refine z6 6 xk rfl rfl rfl (z6 9 xk rfl rfl rfl ?_);refine k8 8 [10] xk ?_ ?_;exact zS;refine(BrF.one rfl rfl ?_ (BrF.one rfl rfl ?_ BrF.nil));(· (refine v4 xk rfl rfl rfl ?_);refine q8 ?_;refine zU 10 xk rfl rfl ?_;(refine v4 xk rfl rfl rfl ?_);refine q8 ?_;refine zU 11 xk rfl rfl ?_;((refine z5v rfl ha ?_;refine r8 xk rfl rfl ?_));refine q8 ?_;refine zU 12 xk rfl rfl ?_;refine zK4 ?_;refine q8 ?_;refine z6 13 xk rfl rfl rfl (q7 14 xk rfl rfl (q7 15 xk rfl rfl (z6 16 xk rfl rfl rfl (z6 18 xk rfl rfl rfl ?_))));refine k8 17 [20] xk ?_ ?_;exact zS;refine(BrF.one rfl rfl ?_ (BrF.one rfl rfl ?_ BrF.nil));(· (refine v4 xk rfl rfl rfl ?_);refine q8 ?_;refine z6 19 xk rfl rfl rfl (zU 20 xk rfl rfl ?_);(refine v4 xk rfl rfl rfl ?_);refine q8 ?_;refine zU 21 xk rfl rfl ?_;exact zB2);(· (refine v4 xk rfl rfl rfl ?_);refine q8 ?_;refine zU 17 xk rfl rfl ?_;(refine v4 xk rfl rfl rfl ?_);refine q8 ?_;refine z6 19 xk rfl rfl rfl (zU 21 xk rfl rfl ?_);refine zK4 ?_;refine q8 ?_;refine q7 22 xk rfl rfl ?_;refine v6 xk ?_ ?_;exact zS;(exact zJ)));(· (refine v4 xk rfl rfl rfl ?_);refine q8 ?_;refine zU 8 xk rfl rfl ?_;(refine v4 xk rfl rfl rfl ?_);refine q8 ?_;refine zU 11 xk rfl rfl ?_;((refine z5v rfl ha ?_;refine r8 xk rfl rfl ?_));refine q8 ?_;refine zU 12 xk rfl rfl ?_;refine zK4 ?_;refine q8 ?_;refine z6 13 xk rfl rfl rfl (q7 14 xk rfl rfl (q7 15 xk rfl rfl (z6 16 xk rfl rfl rfl (z6 18 xk rfl rfl rfl ?_))));refine k8 17 [20] xk ?_ ?_;exact zS;refine(BrF.one rfl rfl ?_ (BrF.one rfl rfl ?_ BrF.nil));(· (refine v4 xk rfl rfl rfl ?_);refine q8 ?_;refine z6 19 xk rfl rfl rfl (zU 20 xk rfl rfl ?_);(refine v4 xk rfl rfl rfl ?_);refine q8 ?_;refine zU 21 xk rfl rfl ?_;exact zB2);(· (refine v4 xk rfl rfl rfl ?_);refine q8 ?_;refine zU 17 xk rfl rfl ?_;(refine v4 xk rfl rfl rfl ?_);refine q8 ?_;refine z6 19 xk rfl rfl rfl (zU 21 xk rfl rfl ?_);refine zK4 ?_;refine q8 ?_;refine q7 22 xk rfl rfl ?_;refine v6 xk ?_ ?_;exact zS;(exact zJ))));(· (refine v4 xk rfl rfl rfl ?_);refine q8 ?_;refine z6 6 xk rfl rfl rfl (z6 7 xk rfl rfl rfl ?_);refine k8 8 [10] xk ?_ ?_;exact zS;refine(BrF.one rfl rfl ?_ (BrF.one rfl rfl ?_ BrF.nil));(· (refine v4 xk rfl rfl rfl ?_);refine q8 ?_;refine zU 10 xk rfl rfl ?_;(refine v4 xk rfl rfl rfl ?_);refine q8 ?_;refine zU 11 xk rfl rfl ?_;((refine z5v rfl ha ?_;refine r8 xk rfl rfl ?_));refine q8 ?_;refine zU 12 xk rfl rfl ?_;exact zB7);(· (refine v4 xk rfl rfl rfl ?_);refine q8 ?_;refine zU 8 xk rfl rfl ?_;(refine v4 xk rfl rfl rfl ?_);refine q8 ?_;refine zU 11 xk rfl rfl ?_;((refine z5v rfl ha ?_;refine r8 xk rfl rfl ?_));refine q8 ?_;refine zU 12 xk rfl rfl ?_;exact zB7)))
  refine q9 rfl (fun hc=>absurd hc ?_) (fun _=>?_)
  ·simp[hb,hf,k3]
  refine zK0 ?_;exact⟨i+1,by exact zJ,by omega,by omega⟩
 ·replace hc:=zC hc
  (repeat (first|refine zs rfl ?_|refine ze rfl (c71) rfl ?_|refine zc rfl (c120) rfl rfl ?_))
  refine q9 rfl (fun h=>absurd h (by decide)) (fun _=>?_);refine zK0 ?_;refine zR rfl trivial ?_;rfl
variable{t1:Ty}
def fn108c{x1:t1.den}(xs:List Int)(p:Int→Bool)(h:∀ x∈xs,Ox.Fn Tryz.prog f (.acons (vI x) (.acons (.val t1 x1) .anil)) (·=vB (p x))) :
  Ox.Fn Tryz.prog 108 (.acons (vL xs) (.acons (.fn f .anil (.acons (.val t1 x1) .anil)) .anil)) (·=vI (idxB p xs 0)):=by
 refine Ox.Fn.intro xok Tryz.func108 rfl Tryz.call108 (yyc rfl) (fun E M0 up=>?_);refine JK.start ?_;refine JK.lenOf 0 rfl fun hb=>?_;replace hb:xs.length≤9223372036854775807:=hb.1;refine zK0 ?_;refine JK.loop (fun i:Nat=>⟨[(0,vL xs),(1,.fn f .anil (.acons (.val t1 x1) .anil)),(7,vI xs.length),(8,vI (i:Int))],[],0⟩) (fun i=>i≤xs.length∧idxB p xs 0=idxB p (xs.drop i) i) (fun i=>xs.length-i) 0 (by simp) (by exact zJ) fun i ⟨hi,hn⟩=>?_;refine zK0 ?_;refine q9 rfl (fun hc=>?_) (fun hc=>?_)
 ·replace hc:=zC hc;have ha:i<xs.length:=by omega
  have hx:=h (xs.getD i 0) (by rw[j7 xs ha];exact yy3 ha);refine zK5 ?_;refine q9 rfl (fun hd=>?_) (fun hd=>?_)
  ·refine zK0 ?_;refine zR rfl trivial ?_;rw[j7 xs ha] at hd;rw[hn,yyx ha,idxB,if_pos hd]
  ·refine zK0 ?_;rw[j7 xs ha] at hd;refine⟨i+1,by exact zJ,⟨by omega,?_⟩,by omega⟩;rw[hn,yyx ha,idxB,if_neg (by rw[hd];simp)]
 ·replace hc:=zC hc;refine zK0 ?_;refine zR rfl trivial ?_;obtain rfl:i=xs.length:=by omega
  rw[hn,List.drop_length];rfl
def fn60c{x1:t1.den}(xs:List Int)(p:Int→Bool)(h:∀ x∈xs,Ox.Fn Tryz.prog f (.acons (vI x) (.acons (.val t1 x1) .anil)) (·=vB (p x))) :
  Ox.Fn Tryz.prog 60 (.acons (vL xs) (.acons (.fn f .anil (.acons (.val t1 x1) .anil)) .anil)) (·=vB (xs.any p)):=by
 refine Ox.Fn.intro xok Tryz.func60 rfl Tryz.call60 (yyc rfl) (fun E M0 up=>?_);refine JK.start ?_
 (repeat (first|refine zs rfl ?_|refine n3 ?_|refine zc rfl (fn108c xs p h) rfl rfl ?_))
 refine zR rfl trivial ?_;refine congrArg vB ?_;rw[yy1,← p6 (p:=p) (i:=0)];simp
def fn61(d:Int)(cs:List CoD)(ps:List (List Int))(c:Int):Ox.Fn Tryz.prog 61 (.acons (vI c) (.acons (.val (.ptr glT) (some (mkG d cs ps))) .anil)) (·=vB (decide (c<0∨c ≥ cs.length))):=by refine Ox.Fn.intro xok Tryz.func61 rfl Tryz.call61 (yyc rfl) (fun E M0 up=>?_);refine JK.start ?_;refine zK0 ?_;refine zR rfl trivial ?_;by_cases h:c<0<;>simp[h]
abbrev vT2f(d:Int)(cs:List CoD)(ps:List (List Int)):AV:=.tup (.acons (vF d cs ps (winL d cs) (befL ps)) (.acons (vI 0) .anil))
def fn26{ps:List (List Int)}(h:VG d cs ps)(l:List Int)(hl:∀ x∈l,0≤x∧x<cs.length):Ox.Fn Tryz.prog 26 (.acons (vG d cs ps) (.acons (vL l) .anil)) (·=vT2f d cs ps):=by
 refine Ox.Fn.intro xok Tryz.func26 rfl Tryz.call26 (yyc rfl) (fun E M0 up=>?_);refine JK.start ?_;have c68:=fn59 h;have c71:=fn62 h;have c69:=fn60c (f:=61) l (fun c=>decide (c<0∨c ≥ cs.length)) (fun x _=>fn61 d cs ps x);have e:(l.any fun c=>decide (c<0∨c ≥ cs.length))=false:=by rw[List.any_eq_false];intro x hx;have:=hl x hx;simp;omega
 rw[e] at c69
 (repeat (first|refine zs rfl ?_|refine zc rfl (c68) rfl rfl ?_))
 refine q9 rfl (fun h=>absurd h (by decide)) (fun _=>?_)
 (refine z12 [0] [1,2] rfl ?_)
 (repeat (first|refine zs rfl ?_|refine zc rfl (c69) rfl rfl ?_))
 refine q9 rfl (fun h=>absurd h (by decide)) (fun _=>?_)
 (repeat (first|refine zs rfl ?_|refine n3 ?_|refine ze rfl (c71) rfl ?_))
 refine zR rfl trivial ?_;rfl
def kd_bd{k d:Int}(h0:0≤k)(hk:k<n)(hn:n≤10)(hd:1≤d)(ha:d≤100):0≤k*d∧k*d≤1000:=by refine⟨Int.mul_nonneg h0 (by omega),?_⟩;have:k*d≤10*100:=Int.mul_le_mul (by omega) ha (by omega) (by omega);omega
def fn31{ps:List (List Int)}(W:List RgD)(B:List Int)(k:Int)(hc:c<10)(hW:W.length=10) :
  Ox.Fn Tryz.prog 31 (.acons (vF d cs ps W B) (.acons (vI (c:Int)) (.acons (vI k) .anil))) (·=vB (decide (loR W c≤k∧k≤hiR W c))):=by
 refine Ox.Fn.intro xok Tryz.func31 rfl Tryz.call31 (yyc rfl) (fun E M0 up=>?_);refine JK.start ?_;have hz:W.getD (Int.toNat (c:Int)) rgT.dflt=W.getD c (0,0,()):=rfl;unfold loR hiR;refine zK0 ?_;rw[hz];refine zR rfl trivial ?_;generalize W.getD c (0,0,())=q;refine congrArg vB ?_;rw[yy1];by_cases h:q.1≤k<;>simp[h]
end Go.Proofs.YtcijjbccigbflaaGreatDoor.Ga
namespace Ox
open Go Go.RowKit
variable {X:Ctx}{s:S}{M:Mem}{ρ:Env}{a:Act}{w w':World}{QA:Exit→S→Prop}{all l:List Oper}{o:Oper}
variable{az:AV}
def z5w{tys:Array TypeId}{e:Ty}{xs:List e.den}(hg:o.guard=none)(hj:o.op=.call {callee:=.value fo,args:=args,argTypes:=tys})
  (hu:opd s.L fo=some (cs1,.fn f .anil .anil)) (ha:opds s.L args.toList=some (cs2,az)) (hc:allP (cs1++cs2)) (hf:FnRow X.P f az eid e xs) (hw:az.bd 0) (hd:dstOk X.n o.dst)
  (k:JL X true all QA l (putS o.dst (.lf (.osl s.nx)) ⟨s.L,(s.nx,.sl eid e xs)::s.H,s.nx+1⟩)):JL X true all QA (o::l) s:=by
 intro M ρ a w h1 h2;rw[z5] at hc;obtain⟨hF,eu⟩:=z8 hu hc.1 h2;simp only[AV.rv] at eu;obtain⟨fs,ks,k1,k2,k3⟩:=eu;obtain⟨hG,ea⟩:=s8 h2 ha hc.2;simp only[AV.rvs] at k1 k2;subst k1;subst k2;have hk:(execOp a.eval o).run X.P w=.ok (.enter f (args.toList.map a.eval).toArray) w:=by
  have hp:Array.map a.eval args=(List.map a.eval args.toList).toArray:=by rw[← yxe]
  obtain⟨dst,op,ty,pos,after,guard⟩:=o;simp only at hj;subst hj;simp only[execOp,resolve,k3,Deferred.ofValue,yye,yyf,yyb,invoke,hp];rw[← hf.call];simp
 refine z9 (j8 hg) (x4 (by rw[hj];rfl) hk (hf.run M ρ w _ h1.mem ea hw) ?_);rintro en w' ⟨v,cs',M',rfl,he,hy,hz,hm,hA,hh,hB⟩;have h3:=h1.ext hz hm hA hh;have hC:v.oneCell'=true:=by rcases he.2 with⟨e1,_⟩|⟨g,cap,cur,e1,_⟩<;>rw[e1]<;>rfl
 have hge:∀ b,v.ownBlock=some b→w.heap.size≤b:=fun b hb=>by
  rcases he.2 with⟨e1,_⟩|⟨g,cap,cur,e1,e2,_⟩
  ·rw[e1] at hb;cases hb
  ·rw[e1] at hb;simp only[Value.ownBlock,yya] at hb;subst hb;exact e2
 have h5:SAT X M' (ρ.with s.nx 0 e v) ⟨s.L,(s.nx,.sl eid e xs)::s.H,s.nx+1⟩ w':=by
  refine h3.add (row:=none) ⟨rfl,rfl,rfl,yyn _,fun _ _ _=>rfl⟩ (fun b hb=>by cases hb) (fun l o hl=>⟨hl,fun b _ e=>by cases e⟩) (k7 _ _ _ _ _) trivial ?_ ?_
  ·simp only[HO.ok,Env.with,if_true];refine⟨trivial,cs',⟨he.1,?_⟩,hy⟩;rcases he.2 with e1|⟨g,cap,cur,e1,e2,e3⟩
   ·exact .inl e1
   ·exact .inr ⟨g,cap,cur,e1,Nat.le_trans h1.below.size e2,e3⟩
  ·intro b hv;simp only[HO.at,Env.with,if_true] at hv;refine⟨hB b hv,fun l o1 hl hE=>?_⟩;have:=(u6 (h1.own l o1 hl).2.2 hE).2;have:=hge b hv;omega
 have h4:REG X M' (ρ.with s.nx 0 e v) ⟨s.L,(s.nx,.sl eid e xs)::s.H,s.nx+1⟩ a:=h2.grow hm (k7 _ _ _ _ _) (yxd _) fun D hD=>by rw[hh D (yyj.1 (h1.mem _ _ hD)).1];exact hD
 refine⟨_,rfl,k M' _ _ w' (j6 h5) (h4.putO hd.spec (yy9 _) ?_)⟩;rw[y7];exact⟨by simp[Leaf.at,Env.with],hC⟩
def z5z{r:List Fr}{L:List (Nat×AV)}{H:List (Nat×HO)}{nx d:Nat}{ty:TypeId}{ps:String}{af:Array Edge}{tys:Array TypeId}{e:Ty}{xs:List e.den}
  (hu:opd L fo=some (cs1,.fn f .anil .anil)) (ha:opds L args.toList=some (cs2,az)) (hc:allP (cs1++cs2)) (hf:FnRow X.P f az eid e xs) (hb:az.bd 0) (hd:ltB d X.n=true)
  (k:JK X (.ops true all l::r) QA ⟨(d,.lf (.osl nx))::L,(nx,.sl eid e xs)::H,nx+1⟩):JK X (.ops true all (⟨some d,.call {callee:=.value fo,args:=args,argTypes:=tys},ty,ps,af,none⟩::l)::r) QA ⟨L,H,nx⟩:=
 z5w (s:=⟨L,H,nx⟩) rfl rfl hu ha hc hf hb (w7 hd) k
variable {L:List (Nat×AV)}{H:List (Nat×HO)}{nx d:Nat}{ty:TypeId}{ps:String}{af:Array Edge}
def JL.strIx{bs:ByteArray}{k:IntKind}(ht:X.P.underlying t=some .string)(hv:opd L y=some (c2,.val (.int k) v))(h2:allP c2)(h0:0≤v)(hn:v.toNat<bs.size)(hd:ltB d X.n=true)
  (kk:∀ z:Int,0≤z∧z≤255→JL X true all QA l ⟨(d,.val (.int .u8) z)::L,H,nx⟩):JL X true all QA (⟨some d,.index t (.const (.string bs)) y,ty,ps,af,none⟩::l) ⟨L,H,nx⟩:=by
 have hb:bs[v.toNat].toNat<256:=UInt8.toNat_lt _;refine q1j rfl rfl (w7 hd) (v:=.val (.int .u8) (bs[v.toNat].toNat:Int)) (s':=⟨L,H,nx⟩) (fun M ρ a w k1 k2=>?_) (kk _ ⟨by omega,by omega⟩);have e2:=(z8 (s:=⟨L,H,nx⟩) hv h2 k2).2;rw[w9] at e2;refine⟨ρ,w,.value (.int .u8 (bs[v.toNat].toNat:Int)),?_,Env.upTo.refl _ _,yyn _,rfl,k1,trivial,.inl ⟨_,rfl,w9.2 rfl⟩⟩;have e3:(if 0≤v then bs[v.toNat]? else none)=some bs[v.toNat]:=by rw[if_pos h0,getElem?_pos]
 have e4:a.eval (.const (.string bs))=.string bs:=rfl;simp only[execOp,e2,e4,Instr.index,asIntOf,yye,yyf,run_underlying ht,yyb,e3]
def JK.strIx{r:List Fr}{t:TypeId}{bs:ByteArray}{y:Operand}{c2:List Prop}{k:IntKind}{v:Int}(ht:X.P.underlying t=some .string)(hv:opd L y=some (c2,.val (.int k) v))(h2:allP c2)(h0:0≤v)(hn:v.toNat<bs.size)(hd:ltB d X.n=true)
  (kk:∀ z:Int,0≤z∧z≤255→JK X (.ops true all l::r) QA ⟨(d,.val (.int .u8) z)::L,H,nx⟩):JK X (.ops true all (⟨some d,.index t (.const (.string bs)) y,ty,ps,af,none⟩::l)::r) QA ⟨L,H,nx⟩:=JL.strIx ht hv h2 h0 hn hd kk
end Ox
namespace Ox.Gl
def insD:Nat→List Int→List Int
 |0,l=>l
 |j+1,l=>if l.getD (j+1) 0<l.getD j 0 then insD j (swp l (j+1) j) else l
def srtD:Nat→List Int→List Int
 |0,l=>l
 |i+1,l=>insD (i+1) (srtD i l)
def z61:∀ (j:Nat) (l:List Int),(insD j l).length=l.length
 |0,l=>rfl
 |j+1,l=>by unfold insD;split;rw[z61,z0j];rfl
def q18:∀ (i:Nat) (l:List Int),(srtD i l).length=l.length
 |0,l=>rfl
 |i+1,l=>by rw[srtD,z61,q18]
def z26:∀ {j:Nat} {l:List Int},j<l.length→(insD j l).Perm l
 |0,l,_=>List.Perm.refl _
 |j+1,l,h=>by
  unfold insD;split
  ·exact(z26 (by rw[z0j];omega)).trans (swp_perm h (by omega))
  ·exact List.Perm.refl _
def z2e:∀ {i:Nat} {l:List Int},i<l.length→(srtD i l).Perm l
 |0,l,_=>List.Perm.refl _
 |i+1,l,h=>(z26 (by rw[q18];exact h)).trans (z2e (by omega))
def z9i(hi:i<l.length)(hk:k<l.length):(swp l i k).getD a 0=if a=k then l.getD i 0 else if a=i then l.getD k 0 else l.getD a 0:=by
 unfold swp;have e1:l.getD k default=l.getD k 0:=rfl;have e2:l.getD i default=l.getD i 0:=rfl;rw[e1,e2];generalize l.getD k 0=x;generalize l.getD i 0=y;simp only[yyk,List.getElem?_set,List.length_set];by_cases h1:k=a
 ·subst h1;simp[hk]
 ·rw[if_neg h1,if_neg (show ¬ a=k from fun e=>h1 e.symm)];by_cases h2:i=a
  ·subst h2;simp[hi]
  ·rw[if_neg h2,if_neg (show ¬ a=i from fun e=>h2 e.symm)]
def get_of(h:a<l.length):l.getD a 0=l[a]:=by simp[List.getD,h]
def z62{i:Nat}:∀ {j:Nat} {l:List Int},j≤i→i<l.length→(∀ a b,a<b→b≤i→b≠j→l.getD a 0≤l.getD b 0)→∀ a b,a<b→b≤i→(insD j l).getD a 0≤(insD j l).getD b 0
 |0,l,hj,hl,h,a,b,h1,h2=>h a b h1 h2 (by omega)
 |j+1,l,hj,hl,h,a,b,h1,h2=>by
  unfold insD;split
  ·rename_i hc;refine z62 (j:=j) (l:=swp l (j+1) j) (by omega) (by rw[z0j];exact hl) (fun a b k1 k2 k3=>?_) a b h1 h2;rw[z9i (by omega) (by omega),z9i (by omega) (by omega)];rw[if_neg k3];by_cases e1:b=j+1
   ·subst e1;rw[if_pos rfl];by_cases e2:a=j
    ·rw[if_pos e2];omega
    ·rw[if_neg e2,if_neg (by omega)];exact h a j (by omega) (by omega) (by omega)
   ·rw[if_neg e1];by_cases e2:a=j
    ·rw[if_pos e2];exact h (j+1) b (by omega) k2 e1
    ·rw[if_neg e2];by_cases e3:a=j+1
     ·rw[if_pos e3];exact h j b (by omega) k2 e1
     ·rw[if_neg e3];exact h a b k1 k2 e1
  ·rename_i hc;by_cases e:b=j+1
   ·subst e;by_cases e2:a=j
    ·subst e2;omega
    ·have:=h a j (by omega) (by omega) (by omega);omega
   ·exact h a b h1 h2 e
def z6c:∀ {i:Nat} {l:List Int},i<l.length→∀ a b,a<b→b≤i→(srtD i l).getD a 0≤(srtD i l).getD b 0
 |0,l,_,a,b,h1,h2=>by omega
 |i+1,l,h,a,b,h1,h2=>by have ih:=z6c (i:=i) (l:=l) (by omega);exact z62 (i:=i+1) (j:=i+1) (l:=srtD i l) (yyn _) (by rw[q18];exact h) (fun a b k1 k2 k3=>ih a b k1 (by omega)) a b h1 h2
def z4j(h:l≠[]):(srtD (l.length-1) l).Pairwise (·≤·):=by have hl:0<l.length:=List.length_pos_iff.2 h;rw[yx1];intro a b ha hb hd;rw[q18] at ha hb;have:=z6c (i:=l.length-1) (l:=l) (by omega) a b hd (by omega);rw[get_of (by rw[q18];exact ha),get_of (by rw[q18];exact hb)] at this;exact this
def z73(hp:l.Perm ((List.range n).map Int.ofNat)):srtD (l.length-1) l=(List.range n).map Int.ofNat:=by
 by_cases h:l=[]
 ·subst h;have:=hp.length_eq;have:n=0:=by simpa using this.symm
  subst this;rfl
 ·exact j3q ((z2e (by have:=List.length_pos_iff.2 h;omega)).trans hp) (z4j h)
end Ox.Gl
namespace Go.Proofs.YtcijjbccigbflaaGreatDoor.Ga
open Go Go.RowKit Ox Ox.Gl
attribute [local irreducible] JC JL JK JW
def fn235(x:Int):Ox.Fn Tryz.prog 235 (.acons (vI x) .anil) (·=vB false):=by refine Ox.Fn.intro xok Tryz.func235 rfl Tryz.call235 (yyc rfl) (fun E M0 up=>?_);refine JK.start ?_;refine zK0 ?_;refine zR rfl trivial ?_;refine congrArg vB ?_;simp
def fn155(x y:Int):Ox.Fn Tryz.prog 155 (.acons (vI x) (.acons (vI y) .anil)) (·=vB (decide (x<y))):=by
 refine Ox.Fn.intro xok Tryz.func155 rfl Tryz.call155 (yyc rfl) (fun E M0 up=>?_);refine JK.start ?_;have c1:=fn235 x;have c2:=fn235 y;obtain⟨b,hb⟩:∃ b,b=false:=⟨false,rfl⟩;rw[← hb] at c1 c2
 (repeat (first|refine zs rfl ?_|refine zg rfl rfl rfl ?_|refine n3 ?_|refine zc rfl (c1) rfl rfl ?_|refine zk rfl rfl (fun _=>c2) rfl rfl ?_))
 refine zR rfl trivial ?_;refine congrArg vB ?_;simp[hb]
def str9:Tryz.prog.underlying 9=some .string:=by kernel_rfl
def fn159(x:Int)(h:0≤x∧x<256):Ox.Fn Tryz.prog 159 (.acons (.val (.int .u64) x) .anil) (fun r=>∃ n:Int,0≤n∧n≤1000∧r=vI n):=by refine Ox.Fn.intro xok Tryz.func159 rfl Tryz.call159 (yyc rfl) (fun E M0 up=>?_);refine JK.start ?_;refine zK0 ?_;refine q9 rfl (fun hc=>absurd hc (by simp;omega)) (fun _=>?_);refine zK0 ?_;refine q9 rfl (fun hc=>absurd hc (by simp;omega)) (fun _=>?_);refine zK0 ?_;refine q9 rfl (fun hc=>absurd hc (by simp;omega)) (fun _=>?_);refine zK0 ?_;refine JK.strIx str9 rfl trivial h.1 (yxf (m:=256) (by omega) (by decide +kernel)) rfl fun z hz=>?_;refine zK0 ?_;refine zR rfl trivial ?_;exact⟨_,by show 0≤0+z;omega,by show 0+z≤1000;omega,rfl⟩
def fn113(x:Int)(h:0≤x∧x<256):Ox.Fn Tryz.prog 113 (.acons (.val (.int .u64) x) .anil) (fun r=>∃ n:Int,0≤n∧n≤1000∧r=vI n):=by refine Ox.Fn.intro xok Tryz.func113 rfl Tryz.call113 (yyc rfl) (fun E M0 up=>?_);refine JK.start ?_;have c218:=fn159 x h;refine zK0 ?_;refine q9 rfl (fun hc=>by cases hc) (fun _=>?_);refine zK0 ?_;refine JK.cl rfl c218 rfl (fun r hr=>?_) trivial;obtain⟨n,h1,h2,rfl⟩:=hr;refine zK0 ?_;refine zR rfl trivial ?_;exact⟨n,h1,h2,rfl⟩
section
variable {E:World}{Mx M0:Mem}{nX:Nat}{rdX:Option Nat}{up:Nat→Nat→Value}{dp lab:Nat}{r:List Fr}{QA:Exit→S→Prop}
def vals_it(xs:List Int)(K:List Int→List (Nat×HO))(hg:xs.length≤9223372036854775806)
  (hY:∀ pre s post,xs=pre++s::post→YO ⟨Tryz.prog,tys,ets,mts,E,Mx,nX,rdX,up,dp⟩ 16 lab (.acons (vI s) .anil) (K pre) 100 true (K (pre++[s])) 100)
  (k:∀ L,JK ⟨Tryz.prog,tys,ets,mts,E,M0,16,none,up,dp⟩ r QA ⟨L,K xs,100⟩) :
  JK ⟨Tryz.prog,tys,ets,mts,E,M0,16,none,up,dp⟩ (.code (lpC Tryz.f69.body)::.blk 0::r) QA ⟨[(0,.lf (.yld lab)),(5,vL xs),(6,vI xs.length),(7,vI 0)],K [],100⟩:=by
 refine JK.loop (fun i:Nat=>⟨[(0,.lf (.yld lab)),(5,vL xs),(6,vI xs.length),(7,vI (i:Int))],K (xs.take i),100⟩) (fun i=>i≤xs.length) (fun i=>xs.length-i) 0 (yyu _) (JW.refl _) fun i hi=>?_;have hb:i<xs.length→xs.take (i+1)=xs.take i++[xs.getD i 0]:=fun h=>by rw[yxy h,j7 xs h]
 have hd:i<xs.length→xs=xs.take i++xs.getD i 0::xs.drop (i+1):=fun h=>by rw[j7 xs h,List.getElem_cons_drop];simp
 have ha:i=xs.length→xs.take i=xs:=fun e=>by rw[e,yx3]
 generalize xs.take i=pre at hb hd ha ⊢;refine zK0 ?_;refine q9 rfl (fun hc=>?_) (fun hc=>?_)
 ·replace hc:=zC hc;have he:i<xs.length:=by omega
  have hz:xs.getD (Int.toNat (i:Int)) (Ty.int .i64).dflt=xs.getD i 0:=rfl;have y1:=hY pre _ _ (hd he);rw[← hb he] at y1;refine zK0 ?_;rw[hz];refine z36 (X:=⟨Tryz.prog,tys,ets,mts,E,Mx,nX,rdX,up,dp⟩) [0,5,6,7] y1 rfl rfl rfl (by simp[stayL,stayB,svL,lk]) trivial ?_;refine zK0 ?_;refine q9 rfl (fun h=>by cases h) (fun _=>?_);refine zK0 ?_;exact⟨i+1,JW.same ⟨rfl,rfl,rfl,rfl,trivial⟩,by omega,by omega⟩
 ·replace hc:=zC hc;rw[ha (by omega)];refine zK0 ?_;exact k _
end
abbrev pSl(xs:List Int):AV:=.val (.ptr (.slice (.int .i64))) (some xs)
abbrev vSeq(xs:List Int):AV:=.fn 69 .anil (.acons (pSl xs) .anil)
abbrev LO126:List (Nat×AV):=[(2,.lf (.optr 0 []))]
def KV(c d:Code)(pre:List Int):List (Nat×HO):=[(3,.fr 0 [(13,.lf (.yld 2)),(2,.lf (.optr 0 []))]),(2,.loop .ready none #[7] c d 13 LO126),(0,.cell (.slice (.int .i64)) (.lf (.osl 4))),(4,.sl 3 (.int .i64) pre)]
def fn111(xs:List Int)(ha:xs.length≤100):FnRow Tryz.prog 111 (.acons (.lf .nils) (.acons (vSeq xs) .anil)) 3 (.int .i64) xs:=by
 refine FnRow.intro (T:=tys) (ET:=ets) (MT:=mts) Tryz.func111 rfl Tryz.call111 (yyc rfl) (fun E M0 up=>?_);refine JK.start ?_;refine zK0 ?_;refine z37 0 3 (.int .i64) rfl ?_;refine q87 [2] rfl rfl rfl Tryz.func69 rfl Tryz.call69 (yyc rfl) trivial fun M3 up3 a1 b1 hb hd=>?_;refine zK0 ?_;refine o9 (s':=⟨[(0,.lf (.yld 2)),(5,vL xs),(6,vI xs.length),(7,vI 0)],KV a1 b1 [],100⟩) (by exact zJ) ?_;refine vals_it (Mx:=M3) (nX:=16) (rdX:=none) xs (fun pre=>KV a1 b1 pre) (by omega) ?_ ?_
 ·intro pre s post he;have hg:pre.length≤100:=by have h1:=congrArg List.length he;rw[yy2] at h1;omega
  refine YO.intro 0 13 (ps:=#[7]) (assign:=a1) (body:=b1) (nO:=13) (LO:=LO126) (L0:=[(7,vI s),(2,.lf (.optr 0 []))]) rfl rfl rfl ⟨3,_,rfl,rfl⟩ ⟨3,_,rfl,rfl⟩ fun M4 M5 up5 bl hh=>JK.start (q1d hb ?_);refine zK0 ?_;refine JK.done (z1u rfl rfl rfl rfl (JK.start (q1d hd ?_)));refine zK0 ?_;refine JK.done (bodyQ.of rfl rfl rfl rfl rfl rfl ⟨rfl,?_⟩);show JW _ ⟨[],KV a1 b1 (pre++[s]),100⟩ _;exact zJ
 ·intro L;refine JK.done (rngQ.of (.inr rfl) rfl rfl rfl rfl rfl rfl rfl (z5m ?_));refine zK0 ?_;exact⟨.inl rfl,4,4,rfl,rfl,rfl⟩
def fn67(xs:List Int)(ha:xs.length≤100):FnRow Tryz.prog 67 (.acons (vSeq xs) .anil) 3 (.int .i64) xs:=by refine FnRow.intro (T:=tys) (ET:=ets) (MT:=mts) Tryz.func67 rfl Tryz.call67 (yyc rfl) (fun E M0 up=>?_);refine JK.start ?_;refine zK0 ?_;refine z5z rfl rfl trivial (fn111 xs ha) ⟨trivial,⟨trivial,⟨trivial,trivial⟩⟩,trivial⟩ rfl ?_;refine zK0 ?_;exact⟨.inl rfl,2,0,rfl,rfl,rfl⟩
abbrev sH(D:List Int):List (Nat×HO):=[(3,.fr 2 []),(2,.fr 1 []),(1,.fr 0 [(3,.lf (.osl 0))]),(0,.sl 3 (.int .i64) D)]
def sort_in(D0:List Int)(hn:D0.length≤12)(h0:1≤D0.length)
  {E:World} {M0 M1 M2 M3:Mem} {nn n1 n2:Nat} {up up1 up2 up3:Nat→Nat→Value} {K:AV→List (Nat×AV)→List (Nat×HO)→Nat→Prop} (hK:K (resV .anil) [] [(2,.fr 1 []),(1,.fr 0 [(3,.lf (.osl 0))]),(0,.sl 3 (.int .i64) (srtD (D0.length-1) D0))] 4) :
  JK (Ctx.sub (Ctx.sub (Ctx.sub ⟨Tryz.prog,tys,ets,mts,E,M0,nn,none,up,0⟩ M1 n1 none up1) M2 n2 none up2) M3 Tryz.f149.ntmps none up3) [.code (Tryz.f149.body.getD .skip)]
   (inlQ (Ctx.sub (Ctx.sub ⟨Tryz.prog,tys,ets,mts,E,M0,nn,none,up,0⟩ M1 n1 none up1) M2 n2 none up2) Tryz.f149.results.toList K) ⟨[(0,.lf (.osl 0)),(1,vI 0),(2,vI D0.length)],sH D0,4⟩:=by
 refine cdf (fn:=Tryz.f149) rfl ?_;refine zK0 ?_;refine JK.loop (fun i:Nat=>⟨[(0,.lf (.osl 0)),(1,vI 0),(2,vI D0.length),(6,vI ((i:Int)+1))],sH (srtD i D0),4⟩) (fun i=>i+1≤D0.length) (fun i=>D0.length-i) 0 h0 (by exact zJ) fun i hi=>?_;have ha:=q18 i D0;have hh:srtD (i+1) D0=insD (i+1) (srtD i D0):=rfl;have hb:i+1=D0.length→srtD i D0=srtD (D0.length-1) D0:=fun e=>by rw[← e];rfl
 generalize srtD i D0=D1 at ha hh hb ⊢;refine zK0 ?_;refine q9 rfl (fun hc=>?_) (fun hc=>?_)
 ·replace hc:=zC hc;refine zK0 ?_;refine JK.loop (σ:=Nat×List Int) (fun q=>⟨[(0,.lf (.osl 0)),(1,vI 0),(2,vI D0.length),(6,vI ((i:Int)+1)),(7,vI (q.1:Int))],sH q.2,4⟩) (fun q=>q.1≤i+1∧q.2.length=D0.length∧insD q.1 q.2=insD (i+1) D1) (fun q=>q.1) (i+1,D1) ⟨yyn _,ha,rfl⟩ (by exact zJ) fun⟨j,D⟩ ⟨hj,hk,hD⟩=>?_;dsimp only at hj hk hD ⊢;have c214:=fn155 (D.getD (Int.toNat (j:Int)) (Ty.int .i64).dflt) (D.getD (Int.toNat ((j:Int)-1)) (Ty.int .i64).dflt);have hu:(0:Int)≤j∧(j:Int)<D.length:=by omega
  refine zK1 ?_;refine y5 xk (Tryz.f149.body.getD .skip) ⟨[(0,.lf (.osl 0)),(1,vI 0),(2,vI D0.length),(6,vI ((i:Int)+1)),(7,vI (j:Int)),(30,vB (bif decide ((0:Int)<(j:Int)) then decide (D.getD (Int.toNat (j:Int)) (Ty.int .i64).dflt<D.getD (Int.toNat ((j:Int)-1)) (Ty.int .i64).dflt) else false))],sH D,4⟩ rfl 15 rfl ?_ ?_
  ·(refine q7 0 xk rfl rfl (q7 1 xk rfl rfl (q7 2 xk rfl rfl (q7 3 xk rfl rfl (z6 4 xk rfl rfl rfl (z6 5 xk rfl rfl rfl (z6 6 xk rfl rfl rfl (z6 8 xk rfl rfl rfl (z6 9 xk rfl rfl rfl (z6 10 xk rfl rfl rfl (z6 11 xk rfl rfl rfl ?_))))))))));refine k8 7 [12] xk StF.nil (BrF.one rfl rfl ?_ (BrF.one rfl rfl ?_ BrF.nil));(· (refine v4 xk rfl rfl rfl ?_);refine q8 ?_;refine zU 12 xk rfl rfl ?_;(refine v4 xk rfl rfl rfl ?_);refine q8 ?_;refine zU 13 xk rfl rfl ?_;(refine q13 rfl rfl (fun hgd=>c214) rfl trivial rfl ?_);refine q8 ?_;refine q7 14 xk rfl rfl ?_;refine v6 xk StF.nil ?_;(exact zJ));(· (refine v4 xk rfl rfl rfl ?_);refine q8 ?_;refine zU 7 xk rfl rfl ?_;(refine v4 xk rfl rfl rfl ?_);refine q8 ?_;refine zU 13 xk rfl rfl ?_;(refine q13 rfl rfl (fun hgd=>c214) rfl trivial rfl ?_);refine q8 ?_;refine q7 14 xk rfl rfl ?_;refine v6 xk StF.nil ?_;(exact zJ)))
  refine q9 rfl (fun hd=>?_) (fun hd=>?_)
  ·obtain⟨k,rfl⟩:∃ k,j=k+1:=by
    cases j with
    |zero=>cases hd
    |succ k=>exact⟨k,rfl⟩
   have h1:decide ((0:Int)<((k+1:Nat):Int))=true:=by rw[yyr];omega
   have he:Int.toNat (((k+1:Nat):Int)-1)=k:=by omega
   rw[h1,cond_true,yyr,he,Int.toNat_natCast] at hd;have hs:insD k (swp D (k+1) k)=insD (i+1) D1:=by rw[← hD];show _=if D.getD (k+1) 0<D.getD k 0 then insD k (swp D (k+1) k) else D;exact(if_pos (show D.getD (k+1) 0<D.getD k 0 from hd)).symm
   have hl:(D.set (Int.toNat ((k+1:Nat):Int)) (D.getD (Int.toNat (((k+1:Nat):Int)-1)) (Ty.int .i64).dflt)).set (Int.toNat (((k+1:Nat):Int)-1)) (D.getD (Int.toNat ((k+1:Nat):Int)) (Ty.int .i64).dflt)=swp D (k+1) k:=by rw[he,Int.toNat_natCast];rfl
   have hv:(D.set (Int.toNat ((k+1:Nat):Int)) (D.getD (Int.toNat (((k+1:Nat):Int)-1)) (Ty.int .i64).dflt)).length=D.length:=by simp
   have hp:(0:Int)≤((k+1:Nat):Int)-1∧((k+1:Nat):Int)-1<D.length:=by omega
   clear he h1 hd c214 hD;refine zK1 ?_;refine q4h xk (Tryz.f149.body.getD .skip) ⟨[(0,.lf (.osl 0)),(1,vI 0),(2,vI D0.length),(6,vI ((i:Int)+1)),(7,vI ((k+1:Nat):Int))],sH ((D.set (Int.toNat ((k+1:Nat):Int)) (D.getD (Int.toNat (((k+1:Nat):Int)-1)) (Ty.int .i64).dflt)).set (Int.toNat (((k+1:Nat):Int)-1)) (D.getD (Int.toNat ((k+1:Nat):Int)) (Ty.int .i64).dflt)),4⟩ rfl 18 rfl ?_ ?_
   ·(refine q7 0 xk rfl rfl (q7 1 xk rfl rfl (q7 2 xk rfl rfl (q7 3 xk rfl rfl (q7 4 xk rfl rfl (q7 5 xk rfl rfl (q7 6 xk rfl rfl (q7 7 xk rfl rfl (q7 8 xk rfl rfl (q7 10 xk rfl rfl (q7 11 xk rfl rfl (q7 12 xk rfl rfl (z7 9 xk rfl rfl (z7 13 xk rfl rfl (z7 14 xk rfl rfl (zU 15 xk rfl rfl ?_)))))))))))))));refine zK2 ?_;refine q8 ?_;refine q7 16 xk rfl rfl (zU 17 xk rfl rfl ?_);refine zK2 ?_;refine q8 ?_;refine v6 xk StF.nil ?_;(exact zJ))
   rw[hl];have hg:(swp D (k+1) k).length=D0.length:=by rw[z0j,hk]
   generalize swp D (k+1) k=D' at hs hg ⊢;refine zK0 ?_;exact⟨(k,D'),by exact zJ,⟨by omega,hg,hs⟩,yy9 k⟩
  ·have hs:D=insD (i+1) D1:=by
    rw[← hD];cases j with
    |zero=>rfl
    |succ k=>
     have h1:decide ((0:Int)<((k+1:Nat):Int))=true:=by rw[yyr];omega
     have he:Int.toNat (((k+1:Nat):Int)-1)=k:=by omega
     rw[h1,cond_true,decide_eq_false_iff_not,he,Int.toNat_natCast] at hd;show _=if D.getD (k+1) 0<D.getD k 0 then insD k (swp D (k+1) k) else D;exact(if_neg (show ¬ D.getD (k+1) 0<D.getD k 0 from hd)).symm
   refine zK0 ?_;refine⟨i+1,?_,by omega,by omega⟩;rw[hh,← hs];exact zJ
 ·replace hc:=zC hc;rw[hb (by omega)];refine zK0 ?_;exact JK.done (z64 rfl rfl rfl rfl hK)
def fn30s(xs:List Int):Ox.Fn Tryz.prog 30 (.acons (vL xs) .anil) (·=vSeq xs):=by
 refine Ox.Fn.intro xok Tryz.func30 rfl Tryz.call30 (yyc rfl) (fun E M0 up=>?_);refine JK.start ?_;refine zK0 ?_;refine j4p ?_
 (refine z7y [0] [1] rfl ?_)
 refine zK0 ?_;refine zR rfl trivial ?_;rfl
def fn29(xs:List Int)(h1:1≤xs.length)(ha:xs.length≤12):Ox.Fn Tryz.prog 29 (.acons (vSeq xs) .anil) (·=vL (srtD (xs.length-1) xs)):=by
 refine Ox.Fn.intro xok Tryz.func29 rfl Tryz.call29 (yyc rfl) (fun E M0 up=>?_);refine JK.start ?_;have c72:=fn67 xs (by omega);have c128:=fn113 (xs.length:Int) (by omega);refine zK0 ?_;refine z86 rfl c72 rfl trivial ?_;refine zK0 ?_;refine JK.inl [3] rfl rfl trivial Tryz.func68 rfl Tryz.call68 (yyc rfl) rfl fun M1 up1=>?_;refine zK0 ?_;refine JK.cl rfl c128 rfl (fun r hr=>?_) trivial;obtain⟨n,n0,n1,rfl⟩:=hr;refine zK0 ?_;refine JK.inl [] rfl rfl trivial Tryz.func112 rfl Tryz.call112 (yyc rfl) rfl fun M2 up2=>?_;refine zK0 ?_;refine JK.loop (σ:=Unit) (fun _=>⟨[(0,.lf (.osl 0)),(1,vI 0),(2,vI xs.length)],[(2,.fr 1 []),(1,.fr 0 [(3,.lf (.osl 0))]),(0,.sl 3 (.int .i64) xs)],3⟩) (fun _=>True) (fun _=>0) () trivial (by exact zJ) fun _ _=>?_;refine zK0 ?_;refine q9 rfl (fun _=>?_) (fun h=>absurd h (by simp;omega));refine zK0 ?_;refine JK.inl [] rfl rfl trivial Tryz.func149 rfl Tryz.call149 (yyc rfl) rfl fun M3 up3=>?_;refine cdt (fn:=Tryz.f149) rfl ?_;show JK _ _ _ ⟨[(0,.lf (.osl 0)),(1,vI 0),(2,vI xs.length)],sH xs,4⟩;refine sort_in xs ha h1 ?_;refine zK0 ?_;refine q5m rfl rfl rfl rfl ?_;refine zK0 ?_;refine JK.done (z64 rfl rfl rfl rfl ?_)
 (refine z7y [0] [3] rfl ?_)
 refine zK0 ?_;refine zR rfl trivial ?_;rfl
end Go.Proofs.YtcijjbccigbflaaGreatDoor.Ga
namespace Ox.Gl
def z0s(hp:o.Perm ((List.range n).map Int.ofNat)):o.length=n∧(∀ x∈o,0≤x∧x<n)∧o.Nodup∧(∀ a:Nat,a<n→(a:Int)∈o):=by
 refine⟨by simpa using hp.length_eq,fun x hx=>?_,?_,fun a ha=>?_⟩
 ·obtain⟨k,h1,rfl⟩:=yy0.1 (hp.mem_iff.1 hx);have:=yyt.1 h1;simp only[Int.ofNat_eq_natCast];omega
 ·refine hp.nodup_iff.2 ?_;rw[List.nodup_iff_pairwise_ne,List.pairwise_map];exact(List.nodup_iff_pairwise_ne.1 List.nodup_range).imp fun {a b} h e=>h (Int.ofNat.inj e)
 ·exact hp.mem_iff.2 (yy0.2 ⟨a,yyt.2 ha,rfl⟩)
def ord_nat(hp:o.Perm ((List.range n).map Int.ofNat)):(o.map Int.toNat).Perm (List.range n):=by have:=hp.map Int.toNat;rw[List.map_map] at this;simpa[Function.comp_def] using this
variable {d:Int}{cs:List CoD}{ps:List (List Int)}
def isO(n:Nat)(o:List Int):Prop:=o.Perm ((List.range n).map Int.ofNat)
def sufB(d:Int)(cs:List CoD)(o:List Int)(i:Nat):Bool:=(List.range i).all fun k=>suB d (cs.getD (o.getD k 0).toNat coZ) k
def rulB(ps:List (List Int))(o:List Int):Bool:=decide ((o.map Int.toNat).Pairwise fun x y=>pG ps y x=false)
def cheG(d:Int)(cs:List CoD)(ps:List (List Int))(o:List Int):Int:=if sufB d cs o o.length=true then(if rulB ps o=true then 0 else 16) else 21
def z2b(o:List Int)(i:Nat):sufB d cs o (i+1)=(sufB d cs o i&&suB d (cs.getD (o.getD i 0).toNat coZ) i):=by unfold sufB;rw[List.range_succ,List.all_append];simp
def z2c(h:i≤j)(hs:sufB d cs o j=true):sufB d cs o i=true:=by unfold sufB at *;rw[yyy] at *;intro k hk;exact hs k (yyt.2 (yxf (yyt.1 hk) h))
def isO.get(h:isO n o)(hi:i<o.length):0≤o.getD i 0∧o.getD i 0<n:=by obtain⟨_,h2,_,_⟩:=z0s h;have:=h2 (o.getD i 0) (by rw[yyk,yyl hi];exact yy3 hi);omega
def isO.len(h:isO n o):o.length=n:=(z0s h).1
def liesB(o:List Int)(i:Nat):Nat:=bitsQ ((o.take i).map Int.toNat)
def j1v(hi:i<o.length):liesB o (i+1)=liesB o i ||| 2 ^ (o.getD i 0).toNat:=by unfold liesB;rw[yxy hi,yx4,yy6,List.map_nil,q4b,yyk,yyl hi];rfl
def lies_lt(h:isO n o)(i:Nat):liesB o i<2 ^ n:=z1q fun c hc=>by obtain⟨x,hx,rfl⟩:=yy0.1 hc;obtain⟨_,h2,_,_⟩:=z0s h;have:=h2 x (List.mem_of_mem_take hx);omega
def z2h{bf:Nat→Nat}:∀ (q pre:List Nat),ruleP bf (bitsQ pre) q=true↔∀ i,i<q.length→bf (q.getD i 0) ^^^ (bf (q.getD i 0) &&& bitsQ (pre++q.take i))=0
 |[],pre=>by simp[ruleP]
 |c::q,pre=>by
  unfold ruleP;have e:bitsQ pre ||| 2 ^ c=bitsQ (pre++[c]):=(q4b pre c).symm
  rw[yyd,e,z2h q (pre++[c]),beq_iff_eq];constructor
  ·intro⟨h1,h2⟩ i hi;cases i with
   |zero=>simpa using h1
   |succ i=>have:=h2 i (by simpa using hi);simpa[yxg] using this
  ·intro h;refine⟨by simpa using h 0 (by simp),fun i hi=>?_⟩;have:=h (i+1) (by simpa using hi);simpa[yxg] using this
def VG.rule(h:VG d cs ps)(ho:isO cs.length o):rulB ps o=true↔∀ i,i<o.length→bfN ps (o.getD i 0).toNat ^^^ (bfN ps (o.getD i 0).toNat &&& liesB o i)=0:=by
 have hp:=ord_nat ho;have hr:=z2i (P:=pG ps) (n:=cs.length) (bf:=bfN ps) (fun c a _=>q3q ps c a) (fun a c hp=>(h.lt hp).1) h.irr (o.map Int.toNat) [] 0
  (by rw[List.nil_append];exact hp.nodup_iff.2 List.nodup_range) (fun a=>by rw[List.nil_append,hp.mem_iff,yyt]) (fun a=>by simp)
 unfold rulB;rw[yyr,← hr];have h0:(0:Nat)=bitsQ []:=rfl;rw[h0,z2h];have e:∀ i,i<o.length→(o.map Int.toNat).getD i 0=(o.getD i 0).toNat:=fun i hi=>by rw[yyk,List.getElem?_map,yyk,yyl hi];rfl
 constructor
 ·intro k i hi;have:=k i (by rw[yxh];exact hi);rw[e i hi,List.nil_append,← List.map_take] at this;exact this
 ·intro k i hi;rw[yxh] at hi;have:=k i hi;rw[e i hi,List.nil_append,← List.map_take];exact this
end Ox.Gl
namespace Go.Proofs.YtcijjbccigbflaaGreatDoor.Ga
open Go Go.RowKit Ox Ox.Gl
attribute [local irreducible] JC JL JK JW
def fn13{cs:List CoD}{ps:List (List Int)}(h:VG d cs ps)(ho:isO cs.length o):Ox.Fn Tryz.prog 13 (.acons (vG d cs ps) (.acons (vL o) .anil)) (·=vI (cheG d cs ps o)):=by
 refine Ox.Fn.intro xok Tryz.func13 rfl Tryz.call13 (yyc rfl) (fun E M0 up=>?_);refine JK.start ?_;have hM:=h.n1;have hu:=h.n10;have hN:=ho.len;have c26:=fn26 h [] (fun x hx=>absurd hx yxi);have c28:=fn30s o;have c27:=fn29 o (by omega) (by omega);rw[z73 ho] at c27;have hv:((List.range cs.length).map Int.ofNat).length=cs.length:=by simp
 have hw:∀ i,i<cs.length→((List.range cs.length).map Int.ofNat).getD i 0=(i:Int):=fun i hi=>by simp[List.getD,hi]
 generalize (List.range cs.length).map Int.ofNat=rg at c27 hv hw
 (repeat (first|refine zs rfl ?_|refine ze rfl (c26) rfl ?_))
 refine q9 rfl (fun h=>absurd h (by decide)) (fun _=>?_)
 (repeat (first|refine zs rfl ?_|refine ze rfl (c28) rfl ?_|refine ze rfl (c27) rfl ?_))
 refine JK.loop (fun i:Nat=>⟨[(1,vL o),(2,.lf (.optr 0 [])),(5,vF d cs ps (winL d cs) (befL ps)),(7,vL rg),(26,vL rg),(27,vI rg.length),(28,vI (i:Int))],[(0,.cell glT (vG d cs ps))],1⟩) (fun i=>i≤cs.length) (fun i=>cs.length-i) 0 (yyu _) (by exact zJ) fun i hi=>?_;have hy:=hw i;refine zK0 ?_;refine q9 rfl (fun hc=>?_) (fun hc=>?_)
 ·replace hc:=zC hc;have hh:i<cs.length:=by omega
  have hz:rg.getD (Int.toNat (i:Int)) (Ty.int .i64).dflt=(i:Int):=hy hh;refine zK0 ?_;rw[hz];refine q9 rfl (fun h=>absurd h (by simp)) (fun _=>?_);refine zK0 ?_;exact⟨i+1,by exact zJ,by omega,by omega⟩
 replace hc:=zC hc;clear hy hi hc;refine zK0 ?_;refine q9 rfl (fun h=>absurd h (by simp[hv])) (fun _=>?_);have hE:cheG d cs ps o=if sufB d cs o o.length=true then(if rulB ps o=true then 0 else 16) else 21:=rfl;refine zK0 ?_;refine JK.loop (fun i:Nat=>⟨[(1,vL o),(5,vF d cs ps (winL d cs) (befL ps)),(43,vL o),(44,vI o.length),(45,vI (i:Int))],[],0⟩) (fun i=>i≤o.length∧sufB d cs o i=true) (fun i=>o.length-i) 0 ⟨yyu _,by simp[sufB]⟩ (by exact zJ) fun i ⟨hi,hs⟩=>?_;have hl:=z2b (d:=d) (cs:=cs) o i;have ha:=fun q=>ho.get (i:=i) q;have hb:∀ c,c<cs.length→i<cs.length→decide (loR (winL d cs) c≤(i:Int)∧(i:Int)≤hiR (winL d cs) c)=suB d (cs.getD c coZ) i:=fun c hc q=>by rw[yy1,yyr];exact h.suit hc (by omega) (by omega)
 have c29:=fun c (hc:c<10)=>fn31 (d:=d) (cs:=cs) (ps:=ps) (winL d cs) (befL ps) (c:=c) (i:Int) hc (q0w _ _);have he:=fun q:i+1≤o.length=>z2c (d:=d) (cs:=cs) (o:=o) q;refine zK0 ?_;refine q9 rfl (fun hc=>?_) (fun hc=>?_)
 ·replace hc:=zC hc;have hh:i<o.length:=by omega
  have hz:o.getD (Int.toNat (i:Int)) (Ty.int .i64).dflt=o.getD i 0:=rfl;obtain⟨g1,g2⟩:=ha hh;obtain⟨c,hk⟩:∃ c:Nat,o.getD i 0=(c:Int):=⟨(o.getD i 0).toNat,by omega⟩;have hA:c<cs.length:=by omega
  have c29:=c29 c (by omega);rw[hb c hA (by omega)] at c29;rw[hk,Int.toNat_natCast] at hl;rw[hk] at hz;generalize suB d (cs.getD c coZ) (i:Int)=b at c29 hl;refine zK0 ?_;rw[hz]
  (repeat (first|refine zs rfl ?_|refine zc rfl (c29) rfl rfl ?_))
  refine q9 rfl (fun hd=>?_) (fun hd=>?_)
  ·refine zK0 ?_;refine zR rfl trivial ?_;rw[hE,if_neg fun k=>?_];have:=he (by omega) k;rw[hl,hs] at this;rw[show b=true from by simpa using this] at hd;cases hd
  ·refine zK0 ?_;refine⟨i+1,by exact zJ,⟨by omega,?_⟩,by omega⟩;rw[hl,hs];simpa using hd
 replace hc:=zC hc;have hB:sufB d cs o o.length=true:=by rw[show o.length=i by omega];exact hs
 rw[if_pos hB] at hE;clear hB hs hl ha hb c29 he hc hi;have hg:=h.rule ho;have hD:=h.bef;have hF:=h.bf_1024;have hG:=h.bef_len;refine zK0 ?_;refine JK.loop (fun i:Nat=>⟨[(5,vF d cs ps (winL d cs) (befL ps)),(12,vS64 (liesB o i)),(56,vL o),(57,vI o.length),(58,vI (i:Int))],[],0⟩) (fun i=>i≤o.length∧∀ j,j<i→bfN ps (o.getD j 0).toNat ^^^ (bfN ps (o.getD j 0).toNat &&& liesB o j)=0) (fun i=>o.length-i) 0 ⟨yyu _,fun j hj=>absurd hj (Nat.not_lt_zero j)⟩ (by exact zJ) fun i ⟨hi,hall⟩=>?_;have hp:=fun q=>j1v (o:=o) (i:=i) q;have hH:=lies_lt ho i;have hP:=z2p hu;have ha:=fun q=>ho.get (i:=i) q;generalize hC:liesB o i=ly at hp hH ⊢;refine zK0 ?_;refine q9 rfl (fun hc=>?_) (fun hc=>?_)
 ·replace hc:=zC hc;have hh:i<o.length:=by omega
  have hz:o.getD (Int.toNat (i:Int)) (Ty.int .i64).dflt=o.getD i 0:=rfl;obtain⟨g1,g2⟩:=ha hh;obtain⟨c,hk⟩:∃ c:Nat,o.getD i 0=(c:Int):=⟨(o.getD i 0).toNat,by omega⟩;have hA:c<cs.length:=by omega
  have hp:=hp hh;have hJ:=hD c;have hK:=hF c;have hQ:=q08 (n:=c) (by omega);rw[hk,Int.toNat_natCast] at hp;rw[hk] at hz;have e0:(befL ps).getD (Int.toNat (c:Int)) (Ty.int .u64).dflt=((bfN ps c:Nat):Int):=hJ;have hR:0≤(befL ps).getD (Int.toNat (c:Int)) (Ty.int .u64).dflt∧(befL ps).getD (Int.toNat (c:Int)) (Ty.int .u64).dflt<1024:=by rw[e0];omega
  refine zK1 ?_;rw[hz];refine zK0 ?_;rw[e0];refine q9 rfl (fun hd=>?_) (fun hd=>?_)
  ·refine zK0 ?_;refine zR rfl trivial ?_;rw[hE,if_neg fun k=>?_];have:=hg.1 k i hh;rw[hk,Int.toNat_natCast,hC] at this;rw[Int.toNat_natCast,Int.toNat_natCast,this] at hd;cases hd
  ·have hL:bfN ps c ^^^ (bfN ps c &&& ly)=0:=by rw[Int.toNat_natCast,Int.toNat_natCast] at hd;simp at hd;exact hd
   refine zK0 ?_;refine⟨i+1,?_,⟨by omega,fun j hj=>?_⟩,by omega⟩
   ·rw[hp,vS_or];exact zJ
   ·rcases Nat.lt_succ_iff_lt_or_eq.1 hj with q|rfl
    ·exact hall j q
    ·rw[hk,Int.toNat_natCast,hC];exact hL
 ·replace hc:=zC hc;refine zK0 ?_;refine zR rfl trivial ?_;rw[hE,if_pos (hg.2 fun j hj=>hall j (by omega))]
end Go.Proofs.YtcijjbccigbflaaGreatDoor.Ga
namespace Ox
open Go Go.RowKit Ox.Rn
variable {X:Ctx}{s:S}{M:Mem}{ρ:Env}{a:Act}{w w':World}{QA:Exit→S→Prop}{all l:List Oper}{o:Oper}{md:Bool}
def LaidW(gs:List Gt)(w:World):Prop:=Laid gs fun b=>w.heap[b]?
variable{gs:List Gt}
def LaidW.later{E w:World}(h:LaidW gs E)(hb:Below E.heap.size E w):LaidW gs w:=z5u h fun b o e=>by show w.heap[b]?=some o;rw[hb.block b (yyj.1 e).1];exact e
abbrev FnE(gs:List Gt):=FnX fun _ w=>LaidW gs w
variable{args r:AV}{R:AV→Prop}
def FnE.toL{P:Program}(h:FnE gs P f args R):FnL (Laid gs) P f args R:=⟨h.call,fun M ρ w vs hz hM=>h.run M ρ w vs (z5u hz hM) hM⟩
def z3r(hz:LaidW gs X.E)(h:callA X.T o.op s=some (cs,f,args))(hf:FnE gs X.P f args (·=r))(hr:r.scal=true)(hc:allP cs)(h1:SAT X M ρ s w)(h2:REG X M ρ s a)(hw:Below w.heap.size w w1) :
  ∃ az,(execOp a.eval o).run X.P w1=.ok (.enter f az) w1∧Calls X.P f az w1 (fun e w'=>e=.returned r.toV∧Below w.heap.size w w'):=by
 obtain⟨hb,vs,hd,ha⟩:=n6 h1 (q33 h1) h2 h hc;refine⟨vs.toArray,by rw[ha,hf.call],(hf.run _ ρ w1 vs ((hz.later h1.below).later hw) (q32 hw) hd hb).mono ?_⟩;rintro e w' ⟨v,r',M',rfl,rfl,_,hv,he,_⟩;exact⟨by rw[(x3 hr).1 hv],hw.trans (he.mono hw.size)⟩
def j4k(hz:LaidW gs X.E)(hg:o.guard=none)(h:callA X.T o.op s=some (cs,f,args))(hf:FnE gs X.P f args (·=r))(hr:r.scal=true)(ha:r.bd 0)(hd:dstOk X.n o.dst)(hc:allP cs)
  (k:JL X md all QA l (putS o.dst r s)):JL X md all QA (o::l) s:=by
 cases md
 ·intro M ρ a w0 h1 h2;simp only[wpQuiet,Region.wanted,hg,if_true];refine⟨r.toV,fun w hw=>?_,k M ρ _ w0 (j6 h1) (h2.putO hd.spec (j9 (yyu _) ha) ((x3 hr).2 rfl))⟩;obtain⟨az,e1,e2⟩:=z3r hz h hf hr hc h1 h2 hw;unfold Oper.quietAt;rw[e1];exact⟨rfl,e2⟩
 ·intro M ρ a w h1 h2;obtain⟨az,e1,e2⟩:=z3r hz h hf hr hc h1 h2 (Below.refl w.heap.size w);refine z9 (j8 hg) (x4 (q0p h) e1 e2 ?_);rintro e w' ⟨rfl,hb⟩;exact⟨_,rfl,k M ρ _ w' (j6 (h1.later hb)) (h2.putO hd.spec (j9 (yyu _) ha) ((x3 hr).2 rfl))⟩
def JL.callE(hz:LaidW gs X.E)(hg:o.guard=none)(h:callA X.T o.op ⟨s.L,[],s.nx⟩=some (cs,f,args))(hf:FnE gs X.P f args R)(hd:dstOk X.n o.dst)(hc:allP cs)
  (k:∀ r,R r→JL X true all QA l (putS o.dst r s)):JL X true all QA (o::l) s:=by
 intro M ρ a w h1 h2;have hh:SAT X M ρ ⟨s.L,[],s.nx⟩ w:=⟨h1.below,h1.msub,h1.mnew,h1.mem,fun l o h=>by simp[lk] at h,fun l l' o o' b h=>by simp[lk] at h,fun l o b h=>by simp[lk] at h⟩;have hj:REG X M ρ ⟨s.L,[],s.nx⟩ a:=⟨h2.size,h2.defers,h2.reg⟩;obtain⟨hb,vs,hk,he⟩:=n6 hh (Mx:=M) ⟨Mem.le_refl M,fun l o b h=>by simp[lk] at h⟩ hj h hc;refine z9 (j8 hg) (x4 (q0p h) (by rw[he,hf.call]) (hf.run M ρ w vs (hz.later h1.below) h1.mem hk hb) ?_);rintro e w' ⟨v,r,M',rfl,hR,hl,hv,hp,hm,hu,ha⟩;have h3:=h1.ext hp hm hu ha;have h4:REG X M' ρ s a:=h2.grow hm (Env.upTo.refl ρ s.nx) (yyn _) fun D hD=>by rw[ha D (yyj.1 (h1.mem _ _ hD)).1];exact hD
 exact⟨_,rfl,k r hR M' ρ _ w' (j6 h3) (h4.putO hd.spec (j9 (yyu _) hl) hv)⟩
def j4l{az y r:AV}{args:Array Operand}{tys:Array TypeId}(hz:LaidW gs X.E)(hg:o.guard=none)(he:o.op=.call {callee:=.value fo,args:=args,argTypes:=tys})
  (hu:opd s.L fo=some (cs1,.fn f .anil .anil)) (ha:opds s.L args.toList=some (cs2,az)) (hk:capK s.H az (fun cs y=>some (cs,y))=some (cs3,y)) (hf:FnE gs X.P f y (·=r)) (hb:∀ M M' ρ v,r.rv M' ρ v→r.rv M ρ v) (hd:dstOk X.n o.dst) (hc:allP (cs1++(cs2++cs3)))
  (k:JL X true all QA l (putS o.dst r s)):JL X true all QA (o::l) s:=by
 intro M ρ a w h1 h2;rw[z5,z5] at hc;obtain⟨hC,eu⟩:=z8 hu hc.1 h2;simp only[AV.rv] at eu;obtain⟨fs,ks,k1,k2,k3⟩:=eu;obtain⟨hD,ea⟩:=s8 h2 ha hc.2.1;simp only[AV.rvs] at k1 k2;subst k1;subst k2;obtain⟨cs,y',hy,hl,hp⟩:=q10 h1 (q33 h1) hk;simp only[yya,yyp] at hy;obtain⟨rfl,rfl⟩:=hy;have hw:=(hp hc.2.2).2 _ ea;have hh:(execOp a.eval o).run X.P w=.ok (.enter f (args.toList.map a.eval).toArray) w:=by
  have hj:Array.map a.eval args=(List.map a.eval args.toList).toArray:=by rw[← yxe]
  obtain⟨dst,op,ty,pos,after,guard⟩:=o;simp only at he;subst he;simp only[execOp,resolve,k3,Deferred.ofValue,yye,yyf,yyb,invoke,hj];rw[← hf.call];simp
 refine z9 (j8 hg) (x4 (by rw[he];rfl) hh (hf.run _ ρ w _ (hz.later h1.below) (q32 (Below.refl _ _)) hw hl) ?_);rintro e w' ⟨v,r',M',rfl,rfl,hA,hv,hB,_⟩;exact⟨_,rfl,k M ρ _ w' (j6 (h1.later hB)) (h2.putO hd.spec (j9 (yyu _) hA) (hb M M' ρ v hv))⟩
def z8y(h:callA X.T o.op s=some (cs,f,.anil))(hf:FnZ (Laid gs) X.P f r.toV)(hz:LaidW gs X.E)(hc:allP cs)(h1:SAT X M ρ s w)(h2:REG X M ρ s a)(hw:Below w.heap.size w w1) :
  ∃ az,(execOp a.eval o).run X.P w1=.ok (.enter f az) w1∧Calls X.P f az w1 (fun e w'=>e=.returned r.toV∧Below w.heap.size w w'):=by
 obtain⟨hb,vs,hd,ha⟩:=n6 h1 (q33 h1) h2 h hc;simp only[AV.rvs] at hd;subst hd;refine⟨#[],by rw[ha,hf.call],(hf.run (fun b=>w1.heap[b]?) w1 ((hz.later h1.below).later hw) (fun b o e=>e)).mono ?_⟩;rintro e w' ⟨rfl,he⟩;exact⟨rfl,hw.trans (he.mono hw.size)⟩
def j4j{g:Option Bool}(hg:match g with|none=>o.guard=none|some g=>gOf all s.L o.guard=some g∧g=true)(h:callA X.T o.op s=some (cs,f,.anil))(hf:FnZ (Laid gs) X.P f r.toV)(hz:LaidW gs X.E)(hr:r.scal=true)(ha:r.bd 0)(hd:dstOk X.n o.dst)(hc:allP cs)
  (k:JL X true all QA l (putS o.dst r s)):JL X true all QA (o::l) s:=by
 intro M ρ a w h1 h2;have hw:Region.wanted o (yielded all.toArray a.tmps)=true:=by
  cases g with
  |none=>exact j8 hg
  |some g=>obtain⟨hg,rfl⟩:=hg;exact m9 hg h2
 obtain⟨az,e1,e2⟩:=z8y h hf hz hc h1 h2 (Below.refl w.heap.size w);refine z9 hw (x4 (q0p h) e1 e2 ?_);rintro e w' ⟨rfl,hb⟩;exact⟨_,rfl,k M ρ _ w' (j6 (h1.later hb)) (h2.putO hd.spec (j9 (yyu _) ha) ((x3 hr).2 rfl))⟩
section
variable {op:Op}{L:List (Nat×AV)}{H:List (Nat×HO)}{nx d:Nat}{ty:TypeId}{ps:String}{af:Array Edge}{fr:List Fr}
variable{gs:List Gt}{r:AV}
def JK.scE(hz:LaidW gs X.E)(h:callA X.T op ⟨L,H,nx⟩=some (cs,f,args))(hf:FnE gs X.P f args (·=r))(hr:r.scal=true)(hd:ltB d X.n=true)(hc:allP cs)(k:JK X (.ops md all l::fr) QA ⟨(d,r)::L,H,nx⟩) :
  JK X (.ops md all (⟨some d,op,ty,ps,af,none⟩::l)::fr) QA ⟨L,H,nx⟩:=j4k (s:=⟨L,H,nx⟩) hz rfl h hf hr (q16 hr) (w7 hd) hc k
def q97(hz:LaidW gs X.E)(h:callA X.T op ⟨L,[],nx⟩=some (cs,f,args))(hf:FnE gs X.P f args (·=r))(hd:ltB d X.n=true)(hc:allP cs)(k:JK X (.ops true all l::fr) QA ⟨(d,r)::L,H,nx⟩) :
  JK X (.ops true all (⟨some d,op,ty,ps,af,none⟩::l)::fr) QA ⟨L,H,nx⟩:=JL.callE (s:=⟨L,H,nx⟩) hz rfl h hf (w7 hd) hc fun _ e=>e▸k
def z13{az y r:AV}{args:Array Operand}{tys:Array TypeId}(hz:LaidW gs X.E)
  (hu:opd L fo=some (cs1,.fn f .anil .anil)) (ha:opds L args.toList=some (cs2,az)) (hk:capK H az (fun cs y=>some (cs,y))=some (cs3,y)) (hf:FnE gs X.P f y (·=r)) (hb:∀ M M' ρ v,r.rv M' ρ v→r.rv M ρ v) (hd:ltB d X.n=true) (hc:allP (cs1++(cs2++cs3)))
  (k:JK X (.ops true all l::fr) QA ⟨(d,r)::L,H,nx⟩):JK X (.ops true all (⟨some d,.call {callee:=.value fo,args:=args,argTypes:=tys},ty,ps,af,none⟩::l)::fr) QA ⟨L,H,nx⟩:=
 j4l (s:=⟨L,H,nx⟩) hz rfl rfl hu ha hk hf hb (w7 hd) hc k
def z39(h:callA X.T op ⟨L,H,nx⟩=some (cs,f,.anil))(hf:FnZ (Laid gs) X.P f (.bool b))(hz:LaidW gs X.E)(hd:ltB d X.n=true)(hc:allP cs)
  (k:JK X (.ops true all l::fr) QA ⟨(d,(.val .bool b))::L,H,nx⟩):JK X (.ops true all (⟨some d,op,ty,ps,af,none⟩::l)::fr) QA ⟨L,H,nx⟩:=
 j4j (g:=none) (r:=(.val .bool b)) (s:=⟨L,H,nx⟩) rfl h hf hz rfl trivial (w7 hd) hc k
end
variable {L:List (Nat×AV)}{H:List (Nat×HO)}{nx d d2:Nat}{ty ty2:TypeId}{ps ps2:String}{af af2:Array Edge}{rr:List Fr}
variable{k:IntKind}
def JK.negW{m:Int}(hu:opd L x=some (c1,.val (.int k) m))(hc:allP c1)(hd:ltB d X.n=true)(kk:JK X (.ops md all l::rr) QA ⟨(d,.val (.int k) (k.wrap (0-m)))::L,H,nx⟩) :
  JK X (.ops md all (⟨some d,.unOp .neg t x,ty,ps,af,none⟩::l)::rr) QA ⟨L,H,nx⟩:=by
 refine JL.vq (o:=⟨some d,.unOp .neg t x,ty,ps,af,none⟩) (s:=⟨L,H,nx⟩) (v:=.val (.int k) (k.wrap (0-m))) rfl rfl (w7 hd) trivial (fun M ρ a w h1 h2=>?_) kk;have e:=(z8 (s:=⟨L,H,nx⟩) hu hc h2).2;rw[w9] at e;refine⟨.int k (k.wrap (0-m)),by rw[w9],fun w1=>?_⟩;simp only[execOp,e];rfl
def JL.mulW(hu:opd L x=some (c1,.val (.int k) u))(hv:opd L y=some (c2,.val (.int k) v))(h1:allP c1)(h2:allP c2)(hd:ltB d X.n=true)
  (kk:JL X true all QA l ⟨(d,.val (.int k) (k.wrap (u*v)))::L,H,nx⟩):JL X true all QA (⟨some d,.binOp .mul t x y t',ty,ps,af,none⟩::l) ⟨L,H,nx⟩:=by
 refine q1j rfl rfl (w7 hd) (v:=.val (.int k) (k.wrap (u*v))) (s':=⟨L,H,nx⟩) (fun M ρ a w k1 k2=>?_) kk;have e1:=(z8 (s:=⟨L,H,nx⟩) hu h1 k2).2;have e2:=(z8 (s:=⟨L,H,nx⟩) hv h2 k2).2;rw[w9] at e1 e2;refine⟨ρ,w,.value (.int k (k.wrap (u*v))),?_,Env.upTo.refl _ _,yyn _,rfl,k1,trivial,.inl ⟨_,rfl,w9.2 rfl⟩⟩;simp only[execOp,e1,e2,yye,x7,yyb,binOp,if_neg (fun h:k≠k=>h rfl)];rfl
def JK.mulW{t t':TypeId}{x y:Operand}{c1 c2:List Prop}{k:IntKind}{u v:Int}(hu:opd L x=some (c1,.val (.int k) u))(hv:opd L y=some (c2,.val (.int k) v))(h1:allP c1)(h2:allP c2)(hd:ltB d X.n=true)
  (kk:JK X (.ops true all l::rr) QA ⟨(d,.val (.int k) (k.wrap (u*v)))::L,H,nx⟩):JK X (.ops true all (⟨some d,.binOp .mul t x y t',ty,ps,af,none⟩::l)::rr) QA ⟨L,H,nx⟩:=JL.mulW hu hv h1 h2 hd kk
def JL.ldG{g:Nat}{e0:TypeId}{k kk':IntKind}{t te:TypeId}{i:Operand}(hX:XOK X)(hz:LaidW gs X.E)(hm:(g,e0,k,xs)∈gs)(hT:lk X.T t=some (.arr xs.length (.int k)))(hj:lk X.T te=some (.int k))
  (hi:opd L i=some (c2,.val (.int kk') v)) (hk:allP c2) (h0:0≤v) (hn:v.toNat<xs.length) (hd:ltB d X.n=true) (hl:ltB d2 X.n=true) (kk:JL X true all QA l ⟨(d2,.val (.int k) (xs.getD v.toNat 0))::del L d,H,nx⟩) :
  JL X true all QA (⟨some d,.indexAddr t (.global g) i,ty,ps,af,none⟩::⟨some d2,.load te (.tmp d),ty2,ps2,af2,none⟩::l) ⟨L,H,nx⟩:=by
 intro M ρ a w h1 h2;obtain⟨cs,cty,fz,e3,e4,e5⟩:=hz.later h1.below _ hm;simp only at e3 e4 e5;have ei:=(z8 (s:=⟨L,H,nx⟩) hi hk h2).2;rw[w9] at ei;have ht:=hX.t _ _ hT;have hp:=hX.t _ _ hj;have hu:(execOp a.eval ⟨some d,.indexAddr t (.global g) i,ty,ps,af,none⟩).run X.P w=.ok (.value (.pointer (some ⟨g,v.toNat,none⟩))) w:=by have:=q07 (P:=X.P) ht (kk:=kk') (k:=v) (b:=g) (off:=0) h0 (by omega) w;have eg:a.eval (.global g)=.pointer (some ⟨g,0,none⟩):=rfl;simp only[execOp,eg,ei,yye,this,yyb,yyf];simp[Ty.size]
 have hg:REG X M ρ ⟨del L d,H,nx⟩ (a.put (some d) (.pointer (some ⟨g,v.toNat,none⟩))):=⟨by simp[Act.put,h2.size],h2.defers,fun e y he=>by
  obtain⟨q1,q2⟩:=q2q he;have:=h2.reg e y q2;refine⟨this.1,?_⟩;have q3:((a.put (some d) (.pointer (some ⟨g,v.toNat,none⟩))).tmps.getD e Go.undef)=a.tmps.getD e Go.undef:=by simp only[Act.put,yyv];rw[ywa (Ne.symm q1)]
  rw[q3];exact this.2⟩
 have hv:(a.put (some d) (.pointer (some ⟨g,v.toNat,none⟩))).eval (.tmp d)=.pointer (some ⟨g,v.toNat,none⟩):=by simp only[Act.eval,Act.put,yyv];rw[yx6 (by rw[h2.size];exact w7 hd)];rfl
 have hh:v.toNat<cs.size:=by omega
 have ha:=q0c (P:=X.P) hp e3 (off:=v.toNat) (by simp only[Ty.size];omega);have hb:(cs.toList.drop v.toNat).take (Ty.size (.int k))=[Value.int k (xs.getD v.toNat 0)]:=by have h6:=e5 v.toNat hn;rw[← yxt,yyl (by simpa using hh)] at h6;rw[yyx (by simpa using hh),Option.some.inj h6];rfl
 rw[hb] at ha;have hw:(execOp (a.put (some d) (.pointer (some ⟨g,v.toNat,none⟩))).eval ⟨some d2,.load te (.tmp d),ty2,ps2,af2,none⟩).run X.P w=.ok (.value (.int k (xs.getD v.toNat 0))) w:=by simp only[execOp,hv,Instr.loadAt,Instr.sureAddr,yye,yyf,yyb,ha];rfl
 refine z9 (j8 rfl) (w8 rfl hu (z9 (j8 rfl) (w8 rfl hw ?_)));exact kk M ρ _ w (h1.regs _) (hg.putO (d:=some d2) (dstOk.spec (w7 hl)) trivial (w9.2 rfl))
def JK.ldG{gs:List Gt}{g:Nat}{e0:TypeId}{k kk':IntKind}{xs:List Int}{t te:TypeId}{i:Operand}{c2:List Prop}{v:Int}(hX:XOK X)(hz:LaidW gs X.E)(hm:(g,e0,k,xs)∈gs)(hT:lk X.T t=some (.arr xs.length (.int k)))(ha:lk X.T te=some (.int k))
  (hi:opd L i=some (c2,.val (.int kk') v)) (hb:allP c2) (h0:0≤v) (hn:v.toNat<xs.length) (hd:ltB d X.n=true) (he:ltB d2 X.n=true) (kk:JK X (.ops true all l::rr) QA ⟨(d2,.val (.int k) (xs.getD v.toNat 0))::del L d,H,nx⟩) :
  JK X (.ops true all (⟨some d,.indexAddr t (.global g) i,ty,ps,af,none⟩::⟨some d2,.load te (.tmp d),ty2,ps2,af2,none⟩::l)::rr) QA ⟨L,H,nx⟩:=JL.ldG hX hz hm hT ha hi hb h0 hn hd he kk
end Ox
namespace Go.Proofs.YtcijjbccigbflaaGreatDoor.Ga
open Go Go.RowKit Ox Ox.Gl Ox.Rn
attribute [local irreducible] JC JL JK JW
def tab64:List Int:=[0,1,56,2,57,49,28,3,61,58,42,50,38,29,17,4,62,47,59,36,45,43,51,22,53,39,33,30,24,18,12,5,63,55,48,27,60,41,37,16,46,35,44,21,52,32,23,11,54,26,40,15,34,20,31,10,25,14,19,9,13,8,7,6]
abbrev g64:Gt:=(1,5,.u8,tab64)
def tzI(b:Nat):Int:=IntKind.wrap .u64 ((((((b:Nat):Int)).toNat &&& (IntKind.wrap .u64 (0-(b:Int))).toNat:Nat):Int)*285870213051353865) / 2 ^ (58:Int).toNat
def tz_all:((List.range 1024).all fun b=>b==0||(decide (0≤tzI b∧tzI b<64)&&tab64.getD (tzI b).toNat 0==(lowB b:Int)&&decide (0≤IntKind.wrap .u64 (0-(b:Int))∧IntKind.wrap .u64 (0-(b:Int))≤18446744073709551615)&&decide (0≤IntKind.wrap .u64 ((((((b:Nat):Int)).toNat &&& (IntKind.wrap .u64 (0-(b:Int))).toNat:Nat):Int)*285870213051353865)∧IntKind.wrap .u64 ((((((b:Nat):Int)).toNat &&& (IntKind.wrap .u64 (0-(b:Int))).toNat:Nat):Int)*285870213051353865)≤18446744073709551615)))=true:=by decide +kernel
def tz_one{b:Nat}(h0:b≠0)(h:b<1024):(0≤tzI b∧tzI b<64)∧tab64.getD (tzI b).toNat 0=(lowB b:Int)∧(0≤IntKind.wrap .u64 (0-(b:Int))∧IntKind.wrap .u64 (0-(b:Int))≤18446744073709551615)∧(0≤IntKind.wrap .u64 ((((((b:Nat):Int)).toNat &&& (IntKind.wrap .u64 (0-(b:Int))).toNat:Nat):Int)*285870213051353865)∧IntKind.wrap .u64 ((((((b:Nat):Int)).toNat &&& (IntKind.wrap .u64 (0-(b:Int))).toNat:Nat):Int)*285870213051353865)≤18446744073709551615):=by
 have:=yyy.1 tz_all b (yyt.2 h);simp only[yy5,yyd,beq_iff_eq,yyr] at this;rcases this with k|⟨⟨⟨k1,k2⟩,k3⟩,k4⟩
 ·exact absurd k h0
 ·exact⟨k1,k2,k3,k4⟩
variable {gs:List Gt}
set_option maxRecDepth 20000 in
def fn161(hg:g64∈gs)(b:Nat)(h0:b≠0)(h:b<1024):FnE gs Tryz.prog 161 (.acons (.val (.int .u64) (b:Int)) .anil) (·=vI (lowB b:Nat)):=by refine Ox.FnX.intro xok Tryz.func161 rfl Tryz.call161 (yyc rfl) (fun E M0 up hz=>?_);refine JK.start ?_;obtain⟨⟨k1,k2⟩,k3,k4,k5⟩:=tz_one h0 h;have hl:=(z58 h0 h).2.1;refine zK0 ?_;refine q9 rfl (fun hc=>absurd hc (by simp;omega)) (fun _=>?_);unfold tzI at k1 k2 k3;refine zK0 ?_;refine JK.negW rfl trivial rfl ?_;generalize IntKind.wrap .u64 (0-(b:Int))=u at k1 k2 k3 k4 k5 ⊢;refine zK0 ?_;refine JK.mulW rfl rfl trivial trivial rfl ?_;generalize IntKind.wrap .u64 ((((((b:Nat):Int)).toNat &&& u.toNat:Nat):Int)*285870213051353865)=z at k1 k2 k3 k5 ⊢;refine zK0 ?_;refine JK.ldG (gs:=gs) xk hz hg rfl rfl rfl trivial k1 (by show _<64;omega) rfl rfl ?_;rw[k3];refine zK0 ?_;refine zR rfl trivial ?_;rfl
def fn114(hg:g64∈gs)(b:Nat)(h0:b≠0)(h:b<1024):FnE gs Tryz.prog 114 (.acons (.val (.int .u64) (b:Int)) .anil) (·=vI (lowB b:Nat)):=by refine Ox.FnX.intro xok Tryz.func114 rfl Tryz.call114 (yyc rfl) (fun E M0 up hz=>?_);refine JK.start ?_;have c:=fn161 hg b h0 h;refine zK0 ?_;refine q9 rfl (fun hc=>by cases hc) (fun _=>?_);refine zK0 ?_;refine JK.scE (gs:=gs) hz rfl c rfl rfl trivial ?_;refine zK0 ?_;refine zR rfl trivial ?_;rfl
end Go.Proofs.YtcijjbccigbflaaGreatDoor.Ga
namespace Ox.Gl
def bdR(K:Int)(R:List RgD):Prop:=∀ i,(-K≤loR R i∧loR R i≤K)∧-K≤hiR R i∧hiR R i≤K
variable{R:List RgD}
def bdR.mono{K K':Int}(h:bdR K R)(hk:K≤K'):bdR K' R:=fun i=>by have:=h i;omega
variable{y:Nat}
def loS_lo(hc:c<R.length):loR (loS R c v) y=if y=c then v else loR R y:=by unfold loS loR;rw[q2o hc];split<;>rfl
def j1m(hc:c<R.length):hiR (loS R c v) y=hiR R y:=by
 unfold loS;show hiR (R.set c (v,hiR R c,())) y=hiR R y;generalize hw:hiR R c=w;unfold hiR;rw[q2o hc];split
 ·rename_i e1;subst e1;exact hw.symm
 ·rfl
def hiS_lo(hc:c<R.length):loR (hiS R c v) y=loR R y:=by
 unfold hiS;generalize hw:loR R c=w;unfold loR;rw[q2o hc];split
 ·rename_i e1;subst e1;exact hw.symm
 ·rfl
def hiS_hi(hc:c<R.length):hiR (hiS R c v) y=if y=c then v else hiR R y:=by unfold hiS;generalize loR R c=w;unfold hiR;rw[q2o hc];split<;>rfl
def bdR.lo(h:bdR K R)(hc:c<R.length)(hv:-(K+1)≤v∧v≤K+1):bdR (K+1) (loS R c v):=fun i=>by have:=h i;rw[loS_lo hc,j1m hc];split<;>omega
def bdR.hi(h:bdR K R)(hc:c<R.length)(hv:-(K+1)≤v∧v≤K+1):bdR (K+1) (hiS R c v):=fun i=>by have:=h i;rw[hiS_lo hc,hiS_hi hc];split<;>omega
def z4g{b:Nat}:(tenB b).length≤10:=by have:(tenB b).length≤(List.range 10).length:=yx8 ..;simpa using this
def z9g:tenB 0=[]:=by decide +kernel
def z6m(c:Nat)(R:List RgD)(a:Nat):pairR c R a=hiS (loS R c (max (loR R c) (loR R a+1))) a (min (hiR (loS R c (max (loR R c) (loR R a+1))) a) (hiR (loS R c (max (loR R c) (loR R a+1))) c-1)):=rfl
def j1l(R:List RgD)(c:Nat)(v:Int):(loS R c v).length=R.length:=by simp[loS]
def hiS_len(R:List RgD)(c:Nat)(v:Int):(hiS R c v).length=R.length:=by simp[hiS]
def VG.win_bd{cs:List CoD}{ps:List (List Int)}(h:VG d cs ps):bdR 102000 (winL d cs):=fun i=>by
 have hz:∀ n:Nat,n≤10→∀ i,(-102000≤loR (winS d cs.length cs n) i∧loR (winS d cs.length cs n) i≤102000)∧-102000≤hiR (winS d cs.length cs n) i∧hiR (winS d cs.length cs n) i≤102000:=by
  intro n hn i;by_cases hi:i<n
  ·unfold loR hiR;rw[z0f _ hi hn];have hb:okCo (cs.getD i coZ):=by
    by_cases hl:i<cs.length
    ·exact z0v h hl
    ·rw[yyk,yxs (by omega)];exact⟨⟨by decide,by decide,by decide⟩,by decide,by decide,by decide⟩
   obtain⟨⟨k1,k2,k3⟩,k4,k5,k6⟩:=hb;have h1:=h.d1;have h2:=h.n10;have b:∀ a:Int,-1000≤a∧a≤1000→-1001≤a / d∧a / d≤1001:=fun a ha=>by
    have h5:=Int.mul_ediv_add_emod a d;have h6:=Int.emod_nonneg a (show d≠0 by omega);have h7:=Int.emod_lt_of_pos a (show 0<d by omega);have h8:=h.d100;constructor
    ·refine Int.not_lt.1 fun hc=>?_;have:a<d*(-1000):=by have:d*(a / d)≤d*(-1002):=Int.mul_le_mul_of_nonneg_left (by omega) (by omega);omega
     omega
    ·refine Int.not_lt.1 fun hc=>?_;have:1*(a / d)≤d*(a / d):=Int.mul_le_mul_of_nonneg_right (by omega) (by omega);omega
   have b1:=b (cMs (cs.getD i coZ)-sHi (cs.getD i coZ)) (by omega);have b2:=b (sLo (cs.getD i coZ)-cLs (cs.getD i coZ)) (by omega);show(-102000≤max 0 (-((cMs (cs.getD i coZ)-sHi (cs.getD i coZ)) / d))∧max 0 (-((cMs (cs.getD i coZ)-sHi (cs.getD i coZ)) / d))≤102000)∧-102000≤min ((cs.length:Int)-1) ((sLo (cs.getD i coZ)-cLs (cs.getD i coZ)) / d)∧min ((cs.length:Int)-1) ((sLo (cs.getD i coZ)-cLs (cs.getD i coZ)) / d)≤102000;omega
  ·have e:(winS d cs.length cs n).getD i (0,0,())=(0,0,()):=by
    induction n with
    |zero=>show(List.replicate 10 ((0,0,()):RgD)).getD i (0,0,())=_;rw[yyk,List.getElem?_replicate];split<;>rfl
    |succ n ih=>rw[winS,q2o (by rw[q0w];omega),if_neg (by omega)];exact ih (by omega) (by omega)
   unfold loR hiR;rw[e];decide
 exact hz cs.length h.n10 i
def pairR_bd(h:bdR K R)(hc:c<R.length)(ha:a<R.length):bdR (K+2) (pairR c R a):=by rw[z6m];have h1:=h c;have h2:=h a;have h3:=h.lo hc (v:=max (loR R c) (loR R a+1)) (by omega);have h4:=h3 c;have h5:=h3 a;have:=h3.hi (c:=a) (by rw[j1l];exact ha) (v:=min (hiR (loS R c (max (loR R c) (loR R a+1))) a) (hiR (loS R c (max (loR R c) (loR R a+1))) c-1)) (by omega);exact this.mono (by omega)
def j2l{c:Nat}(hc:c<10):∀ (az:List Nat),(∀ a∈az,a<10)→∀ {K:Int} {R:List RgD},R.length=10→bdR K R→(az.foldl (pairR c) R).length=10∧bdR (K+2*az.length) (az.foldl (pairR c) R)
 |[],_,K,R,h1,h2=>⟨h1,by simpa using h2⟩
 |a::az,ha,K,R,h1,h2=>by obtain⟨k1,k2⟩:=j2l hc az (fun b hb=>ha b (yyh _ hb)) (R:=pairR c R a) (by rw[z2q,h1]) (pairR_bd h2 (by omega) (by rw[h1];exact ha a yyi));exact⟨k1,k2.mono (by simp only[List.length_cons];omega)⟩
def round_bd(bf:Nat→Nat)(h1:R.length=10)(h2:bdR K R):(roundB bf R).length=10∧bdR (K+200) (roundB bf R):=by
 have key:∀ n,n≤10→((List.range n).foldl (fun R c=>(tenB (bf c)).foldl (pairR c) R) R).length=10∧bdR (K+20*n) ((List.range n).foldl (fun R c=>(tenB (bf c)).foldl (pairR c) R) R):=by
  intro n;induction n with
  |zero=>intro _;exact⟨h1,by simpa using h2⟩
  |succ n ih=>intro hn;obtain⟨k1,k2⟩:=ih (by omega);rw[List.range_succ,List.foldl_append];obtain⟨k3,k4⟩:=j2l (c:=n) (by omega) (tenB (bf n)) (fun a ha=>(z9h.1 ha).1) k1 k2;exact⟨k3,k4.mono (by have:=z4g (b:=bf n);omega)⟩
 obtain⟨k1,k2⟩:=key 10 (yyn _);exact⟨k1,k2.mono (by omega)⟩
def j3i(bf:Nat→Nat):∀ (n:Nat) {K:Int} {R:List RgD},R.length=10→bdR K R→(bndF bf n R).length=10∧bdR (K+200*n) (bndF bf n R)
 |0,K,R,h1,h2=>⟨h1,by simpa[bndF] using h2⟩
 |n+1,K,R,h1,h2=>by
  obtain⟨k1,k2⟩:=round_bd bf h1 h2;unfold bndF;split
  ·exact⟨k1,k2.mono (by omega)⟩
  ·obtain⟨k3,k4⟩:=j3i bf n k1 k2;exact⟨k3,k4.mono (by omega)⟩
def inE(R:List RgD)(F T:Int)(c:Nat):Bool:=decide (F≤loR R c)&&decide (hiR R c≤T)
def inL(R:List RgD)(F T:Int)(n:Nat):List Int:=((List.range n).filter (inE R F T)).map Int.ofNat
def inL_succ(R:List RgD)(F T:Int)(n:Nat):inL R F T (n+1)=if inE R F T n=true then inL R F T n++[(n:Int)] else inL R F T n:=by
 unfold inL;rw[List.range_succ,List.filter_append,yx4];by_cases h:inE R F T n=true
 ·rw[if_pos h,List.filter_cons_of_pos h];rfl
 ·rw[if_neg h,yxz h];simp
def inL_len(R:List RgD)(F T:Int)(n:Nat):(inL R F T n).length≤n:=by unfold inL;rw[yxh];exact Nat.le_trans (yx8 ..) (by simp)
def j15(h:Sch P n p)(hb:Bnd n p (loR R) (hiR R)){F T:Int}(ha:0<(inL R F T n).length):((inL R F T n).length:Int)≤T-F+1:=by unfold inL at *;rw[yxh] at *;refine no_block h hb ((List.nodup_range).filter _) (fun c hc=>?_) (List.length_pos_iff.1 ha);obtain⟨h1,h2⟩:=yy7.1 hc;unfold inE at h2;rw[yyd,yyr,yyr] at h2;exact⟨yyt.1 h1,h2.1,h2.2⟩
end Ox.Gl
namespace Go.Proofs.YtcijjbccigbflaaGreatDoor.Ga
open Go Go.RowKit Ox Ox.Gl Ox.Rn
attribute [local irreducible] JC JL JK JW
def eqWi:EqT Tryz.prog wiT 79:=.of (by decide +kernel)
abbrev vW(W:List RgD):AV:=.val wiT W
abbrev stB(bf:Nat→Nat)(R:List RgD)(c:Nat):List RgD:=(List.range c).foldl (fun R c=>(tenB (bf c)).foldl (pairR c) R) R
def stB_succ(bf:Nat→Nat)(R:List RgD)(c:Nat):stB bf R (c+1)=(tenB (bf c)).foldl (pairR c) (stB bf R c):=by unfold stB;rw[List.range_succ,List.foldl_append];rfl
variable {gs:List Gt}
variable{cs:List CoD}{W:List RgD}
set_option maxHeartbeats 1000000 in
def fn71g(hg:g64∈gs){ps:List (List Int)}(hK:cs.length≤10)(hL:B.length=10)(hM:∀ c,B.getD c 0=(bf c:Int))(hN:∀ c,bf c<1024)(hW:W.length=10)(hP:bdR 102000 W):FnE gs Tryz.prog 71 (.acons (vF d cs ps W B) .anil) (·=vW (bndF bf cs.length W)):=by
 refine Ox.FnX.intro xok Tryz.func71 rfl Tryz.call71 (yyc rfl) (fun E M0 up hQ=>?_);refine JK.start ?_;generalize hF:bndF bf cs.length W=F;refine zK0 ?_;refine q7t (σ:=Nat×List RgD) (τ:=Unit) (fun q=>⟨[(0,vF d cs ps W B),(2,.lf (.optr 0 [])),(3,.lf (.optr 1 [])),(17,vI cs.length),(18,vI (q.1:Int))],[(0,.cell wiT (.val wiT wiT.dflt)),(1,.cell wiT (vW q.2))],2⟩)
  (fun q=>q.1≤cs.length∧q.2.length=10∧bdR (102000+1000*q.1) q.2∧bndF bf (cs.length-q.1) q.2=F) (fun q=>cs.length-q.1) (0,W) ⟨yyu _,hW,by simpa using hP,by simpa using hF⟩ (by exact zJ)
  (fun _=>⟨[(2,.lf (.optr 0 [])),(3,.lf (.optr 1 []))],[(0,.cell wiT (.val wiT wiT.dflt)),(1,.cell wiT (vW F))],2⟩) (fun _=>True) (fun _ _=>?_) fun⟨i,R⟩ ⟨hi,hR,hE,hy⟩=>?_
 ·refine zK0 ?_;refine zR rfl trivial ?_;rfl
 dsimp only at hi hR hE hy ⊢;refine zK0 ?_;refine q9 rfl (fun hc=>?_) (fun hc=>?_)
 ·replace hc:=zC hc;have h5:i<cs.length:=by omega
  obtain⟨k,hk⟩:∃ k,cs.length-i=k+1:=⟨cs.length-i-1,by omega⟩;have hU:cs.length-(i+1)=k:=by omega
  rw[hk] at hy;have hj:(if roundB bf R=R then roundB bf R else bndF bf k (roundB bf R))=F:=hy;refine zK0 ?_;refine JK.loop (fun c:Nat=>⟨[(0,vF d cs ps W B),(2,.lf (.optr 0 [])),(3,.lf (.optr 1 [])),(4,.lf (.optr 2 [])),(17,vI cs.length),(18,vI (i:Int)),(24,.val bfT B),(25,vI (c:Int))],[(0,.cell wiT (.val wiT wiT.dflt)),(1,.cell wiT (vW (stB bf R c))),(2,.cell wiT (vW R))],3⟩)
   (fun c=>c≤10∧(stB bf R c).length=10∧bdR (102000+1000*i+50*c) (stB bf R c)) (fun c=>10-c) 0 ⟨yyu _,hR,by simpa[stB] using hE⟩ (by exact zJ) fun c ⟨hY,hl,hp⟩=>?_
  have hS:=stB_succ bf R c;have ha:c=10→stB bf R c=roundB bf R:=fun e=>by rw[e];rfl
  generalize stB bf R c=S at hl hp hS ha ⊢;refine zK0 ?_;refine q9 rfl (fun hc=>?_) (fun hc=>?_)
  ·replace hc:=zC hc;have h6:c<10:=by omega
   have hz:B.getD (Int.toNat (c:Int)) (Ty.int .u64).dflt=((bf c:Nat):Int):=hM c;have hZ:=hN c;refine zK0 ?_;rw[hz];refine JK.loop (σ:=Nat×List RgD) (fun q=>⟨[(0,vF d cs ps W B),(2,.lf (.optr 0 [])),(3,.lf (.optr 1 [])),(4,.lf (.optr 2 [])),(5,vI (c:Int)),(6,vS64 q.1),(17,vI cs.length),(18,vI (i:Int)),(24,.val bfT B),(25,vI (c:Int))],[(0,.cell wiT (.val wiT wiT.dflt)),(1,.cell wiT (vW q.2)),(2,.cell wiT (vW R))],3⟩)
    (fun q=>q.1<1024∧(tenB q.1).foldl (pairR c) q.2=stB bf R (c+1)∧q.2.length=10∧bdR (102000+1000*i+50*c+2*(10-((tenB q.1).length:Int))) q.2) (fun q=>q.1) (bf c,S)
    ⟨hZ,hS.symm,hl,hp.mono (by have:=z4g (b:=bf c);dsimp only;omega)⟩ (by exact zJ) fun⟨b,Q⟩ ⟨hb,hT,hA,he⟩=>?_
   dsimp only at hb hT hA he ⊢;refine zK0 ?_;refine q9 rfl (fun hd=>?_) (fun hd=>?_)
   ·have hB:b≠0:=by simpa using hd
    obtain⟨t1,t2,t3,t4⟩:=z58 hB hb;have c204:=fn114 hg b hB hb;have h7:=z4g (b:=b);have h0:((tenB b).length:Int)=((tenB (b &&& (b-1))).length:Int)+1:=by rw[t1];simp
    rw[t1,List.foldl_cons,z6m] at hT;generalize lowB b=a at t2 hT c204;have h1:=he c;have hC:=he a;have hu:bdR (102000+1000*i+50*c+2*(10-((tenB b).length:Int))+1) (loS Q c (max (loR Q c) (loR Q a+1))):=he.lo (by omega) (by omega);have hv:(loS Q c (max (loR Q c) (loR Q a+1))).length=10:=by rw[j1l,hA]
    have h2:((((b:Nat):Int).toNat &&& ((b:Int)-1).toNat:Nat):Int)=((b &&& (b-1):Nat):Int):=by rw[Int.toNat_natCast,show((b:Int)-1).toNat=b-1 by omega]
    have h9:(0:Int)≤(b:Int)-1∧(b:Int)-1<1024:=by omega
    refine zK0 ?_;refine JK.scE (gs:=gs) hQ rfl c204 rfl rfl trivial ?_;refine zK1 ?_;rw[h2];have q1:-200000≤(Q.getD (Int.toNat (c:Int)) rgT.dflt).1∧(Q.getD (Int.toNat (c:Int)) rgT.dflt).1≤200000:=by show -200000≤loR Q c∧loR Q c≤200000;omega
    have q2:-200000≤(Q.getD (Int.toNat (a:Int)) rgT.dflt).1∧(Q.getD (Int.toNat (a:Int)) rgT.dflt).1≤200000:=by show -200000≤loR Q a∧loR Q a≤200000;omega
    refine y5 xk (Tryz.f71.body.getD .skip) ⟨[(0,vF d cs ps W B),(2,.lf (.optr 0 [])),(3,.lf (.optr 1 [])),(4,.lf (.optr 2 [])),(5,vI (c:Int)),(6,vS64 (b &&& (b-1))),(7,vI (a:Int)),(17,vI cs.length),(18,vI (i:Int)),(24,.val bfT B),(25,vI (c:Int))],[(0,.cell wiT (.val wiT wiT.dflt)),(1,.cell wiT (vW (loS Q c (max (loR Q c) (loR Q a+1))))),(2,.cell wiT (vW R))],3⟩ rfl 14 rfl ?_ ?_
    ·(refine q7 0 xk rfl rfl (q7 1 xk rfl rfl (q7 2 xk rfl rfl (q7 3 xk rfl rfl (q7 5 xk rfl rfl (q7 6 xk rfl rfl (q7 7 xk rfl rfl (z7 4 xk rfl rfl (z7 8 xk rfl rfl (z7 9 xk rfl rfl (z7 10 xk rfl rfl (z7 11 xk rfl rfl (z7 12 xk rfl rfl (zU 13 xk rfl rfl ?_)))))))))))));refine zK13 ?_;refine q8 ?_;refine v6 xk ?_ ?_;exact zS;(exact zJ))
    have hh:=he c;have hG:=he a;have hH:hiR (loS Q c (max (loR Q c) (loR Q a+1))) c=hiR Q c:=j1m (by omega);have hJ:hiR (loS Q c (max (loR Q c) (loR Q a+1))) a=hiR Q a:=j1m (by omega);rw[← hH] at hh;rw[← hJ] at hG;generalize loS Q c (max (loR Q c) (loR Q a+1))=Q2 at hT hu hv hh hG ⊢;clear hH hJ q1 q2 h1 hC he hA;have hw:bdR (102000+1000*i+50*c+2*(10-((tenB b).length:Int))+1+1) (hiS Q2 a (min (hiR Q2 a) (hiR Q2 c-1))):=hu.hi (by omega) (by omega);have hD:(hiS Q2 a (min (hiR Q2 a) (hiR Q2 c-1))).length=10:=by rw[hiS_len,hv]
    have q3:-200000≤(Q2.getD (Int.toNat (c:Int)) rgT.dflt).2.1∧(Q2.getD (Int.toNat (c:Int)) rgT.dflt).2.1≤200000:=by show -200000≤hiR Q2 c∧hiR Q2 c≤200000;omega
    have q4:-200000≤(Q2.getD (Int.toNat (a:Int)) rgT.dflt).2.1∧(Q2.getD (Int.toNat (a:Int)) rgT.dflt).2.1≤200000:=by show -200000≤hiR Q2 a∧hiR Q2 a≤200000;omega
    refine JK.drawP xk (Tryz.f71.body.getD .skip) rfl 14 rfl ?_
    (refine q7 0 xk rfl rfl (q7 1 xk rfl rfl (q7 2 xk rfl rfl (q7 3 xk rfl rfl (q7 5 xk rfl rfl (q7 6 xk rfl rfl (q7 7 xk rfl rfl (z7 4 xk rfl rfl (z7 8 xk rfl rfl (z7 9 xk rfl rfl (z7 10 xk rfl rfl (z7 11 xk rfl rfl (z7 12 xk rfl rfl (zU 13 xk rfl rfl ?_)))))))))))));refine zK13 ?_;refine q8 ?_;refine v6 xk ?_ ?_;exact zS;((refine zK0 ?_;refine⟨(b &&& (b-1),hiS Q2 a (min (hiR Q2 a) (hiR Q2 c-1))),by exact zJ,⟨t4,hT,hD,hw.mono (by dsimp only;omega)⟩,t3⟩)))
   ·have hB:b=0:=by simpa using hd
    subst hB;rw[z9g,List.foldl_nil] at hT;rw[z9g] at he;refine zK0 ?_;refine⟨c+1,?_,⟨by omega,by rw[← hT];exact hA,by rw[← hT];exact he.mono (by simp;omega)⟩,by omega⟩;rw[← hT];exact zJ
  ·replace hc:=zC hc;have ha:=ha (by omega);rw[ha] at hl hp ⊢;generalize roundB bf R=S2 at hj hl hp ⊢
   (repeat (first|refine zs rfl ?_|refine zeq eqWi rfl rfl rfl ?_))
   refine q9 rfl (fun hd=>?_) (fun hd=>?_)
   ·have e:S2=R:=v9.1 hd;rw[if_pos e] at hj;rw[hj];refine zK0 ?_;exact⟨(),by exact zJ,trivial⟩
   ·have e:¬ S2=R:=fun e=>by rw[v9.2 e] at hd;cases hd
    rw[if_neg e] at hj;refine zK0 ?_;exact⟨(i+1,S2),by exact zJ,⟨by dsimp only;omega,hl,hp.mono (by dsimp only;omega),by dsimp only;rw[hU];exact hj⟩,by dsimp only;omega⟩
 ·replace hc:=zC hc;have h3:i=cs.length:=by omega
  have h4:R=F:=by rw[← hy,h3,Nat.sub_self];rfl
  rw[h4];refine zK0 ?_;exact⟨(),by exact zJ,trivial⟩
abbrev bkT:Ty:=.cons (.int .i64) (.cons (.int .i64) (.cons (.slice (.int .i64)) .nil))
abbrev bkZ:bkT.den:=(0,0,[],())
abbrev vT2b:AV:=.tup (.acons (.val bkT bkZ) (.acons (vB false) .anil))
abbrev bkA:AV:=.mix (vI 0) (.mix (vI 0) (.mix (.lf .nils) (.val .nil ())))
abbrev HK(R:List RgD):List (Nat×HO):=[(0,.cell bkT bkA),(1,.cell wiT (vW R)),(2,.cell bkT bkA)]
abbrev HK3(R:List RgD)(F T:Int)(D:List Int):List (Nat×HO):=(4,.sl 3 (.int .i64) D)::(3,.cell bkT (.mix (vI F) (.mix (vI T) (.mix (.lf (.osl 4)) (.val .nil ())))))::HK R
set_option maxHeartbeats 1000000 in
def fn37g(hg:g64∈gs){ps:List (List Int)}(hh:cs.length≤10)(hj:B.length=10)(hy:∀ c,B.getD c 0=(bf c:Int))(hA:∀ c,bf c<1024)(hB:∀ c a,(bf c).testBit a=true→c<cs.length∧a<cs.length∧P a c=true)
  {W:List RgD} (hW:W.length=10) (hC:bdR 102000 W) {p:Nat→Int} (hp:Sch P cs.length p) (hE:Bnd cs.length p (loR W) (hiR W)) :
  FnE gs Tryz.prog 37 (.acons (vF d cs ps W B) .anil) (·=vT2b):=by
 refine Ox.FnX.intro xok Tryz.func37 rfl Tryz.call37 (yyc rfl) (fun E M0 up hz=>?_);refine JK.start ?_;have c116:=fn71g hg hh hj hy hA (d:=d) (ps:=ps) hW hC;obtain⟨hG,hl⟩:=j3i bf cs.length hW hC;obtain⟨_,hD⟩:=z3s hp hh (bf:=bf) hB cs.length hW hE;replace hl:=hl.mono (K':=110000) (by omega);generalize bndF bf cs.length W=R at c116 hG hl hD;have hv:=fun F T hH=>j15 hp hD (F:=F) (T:=T) hH;clear hy hA hj hB;obtain⟨f,hf⟩:∃ f,f=false:=⟨false,rfl⟩;refine zK0 ?_;refine q97 (gs:=gs) hz rfl c116 rfl trivial ?_;refine zK0 ?_;refine JK.loop (fun i:Nat=>⟨[(0,vF d cs ps W B),(2,.lf (.optr 0 [])),(3,vB false),(4,.lf (.optr 1 [])),(5,.lf (.optr 2 [])),(6,vB f),(19,vI cs.length),(20,vI (i:Int))],HK R,3⟩) (fun i=>i≤cs.length) (fun i=>cs.length-i) 0 (yyu _) (by rw[hf];exact zJ) fun i hi=>?_;refine zK0 ?_;refine q9 rfl (fun hc=>?_) (fun hc=>?_)
 ·replace hc:=zC hc;have hJ:i<10:=by omega
  refine zK0 ?_;refine JK.loop (fun k:Nat=>⟨[(0,vF d cs ps W B),(2,.lf (.optr 0 [])),(3,vB false),(4,.lf (.optr 1 [])),(5,.lf (.optr 2 [])),(6,vB f),(7,vI (i:Int)),(19,vI cs.length),(20,vI (i:Int)),(28,vI cs.length),(29,vI (k:Int))],HK R,3⟩) (fun k=>k≤cs.length) (fun k=>cs.length-k) 0 (yyu _) (by exact zJ) fun k hk=>?_;refine zK0 ?_;refine q9 rfl (fun hd=>?_) (fun hd=>?_)
  ·replace hd:=zC hd;have hK:k<10:=by omega
   have hF:=hl i;have hT:=hl k;refine zK1 ?_;have q1:(R.getD (Int.toNat (i:Int)) rgT.dflt).1=loR R i:=rfl;have q2:(R.getD (Int.toNat (k:Int)) rgT.dflt).2.1=hiR R k:=rfl;refine y5 xk (Tryz.f37.body.getD .skip) ⟨[(0,vF d cs ps W B),(2,.lf (.optr 0 [])),(3,vB false),(4,.lf (.optr 1 [])),(5,.lf (.optr 2 [])),(6,vB f),(7,vI (i:Int)),(8,vI (k:Int)),(9,.lf (.optr 3 [])),(19,vI cs.length),(20,vI (i:Int)),(28,vI cs.length),(29,vI (k:Int))],(3,.cell bkT (.mix (vI (loR R i)) (.mix (vI (hiR R k)) (.mix (.lf .nils) (.val .nil ())))))::HK R,4⟩ rfl 11 rfl ?_ ?_
   ·(refine q7 0 xk rfl rfl (q7 1 xk rfl rfl (q7 2 xk rfl rfl (q7 4 xk rfl rfl (q7 5 xk rfl rfl (q7 6 xk rfl rfl (z7 3 xk rfl rfl (z7 7 xk rfl rfl ?_)))))));refine k8 8 [9] xk ?_ ?_;exact zS;refine(BrF.one rfl rfl ?_ (BrF.one rfl rfl ?_ BrF.nil));(· refine zK10 ?_;refine q8 ?_;refine zU 9 xk rfl rfl ?_;(refine r8 xk rfl rfl ?_);refine q8 ?_;refine zU 10 xk rfl rfl ?_;exact zB3);(· (refine r8 xk rfl rfl ?_);refine q8 ?_;refine zU 8 xk rfl rfl ?_;refine zK10 ?_;refine q8 ?_;refine zU 10 xk rfl rfl ?_;refine zK2 ?_;refine q8 ?_;refine v6 xk StF.nil ?_;(exact zJ)))
   generalize loR R i=F at hF ⊢;generalize hiR R k=T at hT ⊢;refine q88 3 [true,true,false] 3 (.int .i64) rfl rfl ?_;refine zK0 ?_;refine JK.loop (fun c:Nat=>⟨[(0,vF d cs ps W B),(2,.lf (.optr 0 [])),(3,vB false),(4,.lf (.optr 1 [])),(5,.lf (.optr 2 [])),(6,vB f),(7,vI (i:Int)),(8,vI (k:Int)),(9,.lf (.optr 3 [])),(19,vI cs.length),(20,vI (i:Int)),(28,vI cs.length),(29,vI (k:Int)),(46,vI cs.length),(47,vI (c:Int))],HK3 R F T (inL R F T c),5⟩) (fun c=>c≤cs.length) (fun c=>cs.length-c) 0 (yyu _) (by exact zJ) fun c hP=>?_;have hb:=inL_succ R F T c;have hL:=inL_len R F T c;have hu:=hv F T;have ha:c=cs.length→inL R F T c=inL R F T cs.length:=fun e=>by rw[e]
   generalize inL R F T c=D at hb hL ha ⊢;refine zK0 ?_;refine q9 rfl (fun he=>?_) (fun he=>?_)
   ·replace he:=zC he;have hM:c<10:=by omega
    refine zK1 ?_;refine y5 xk (Tryz.f37.body.getD .skip) ⟨[(0,vF d cs ps W B),(2,.lf (.optr 0 [])),(3,vB false),(4,.lf (.optr 1 [])),(5,.lf (.optr 2 [])),(6,vB f),(7,vI (i:Int)),(8,vI (k:Int)),(9,.lf (.optr 3 [])),(19,vI cs.length),(20,vI (i:Int)),(28,vI cs.length),(29,vI (k:Int)),(10,vI (c:Int)),(46,vI cs.length),(47,vI (c:Int)),(65,vB (bif decide (F≤loR R c) then decide (hiR R c≤T) else false))],HK3 R F T D,5⟩ rfl 16 rfl ?_ ?_
    ·(refine q7 0 xk rfl rfl (q7 1 xk rfl rfl (q7 2 xk rfl rfl (q7 4 xk rfl rfl (z7 3 xk rfl rfl (z7 5 xk rfl rfl (z7 6 xk rfl rfl (z7 7 xk rfl rfl ?_)))))));refine k8 8 [12] xk ?_ ?_;exact zS;refine(BrF.one rfl rfl ?_ (BrF.one rfl rfl ?_ BrF.nil));(· (refine v4 xk rfl rfl rfl ?_);refine q8 ?_;refine z6 9 xk rfl rfl rfl (z6 10 xk rfl rfl rfl (z6 12 xk rfl rfl rfl ?_));refine k8 11 [13] xk ?_ ?_;exact zS;refine(BrF.one rfl rfl ?_ (BrF.one rfl rfl ?_ BrF.nil));(· (refine v4 xk rfl rfl rfl ?_);refine q8 ?_;refine zU 13 xk rfl rfl ?_;exact zB1);(· (refine v4 xk rfl rfl rfl ?_);refine q8 ?_;refine zU 11 xk rfl rfl ?_;exact zB1));(· (refine v4 xk rfl rfl rfl ?_);refine q8 ?_;refine z6 8 xk rfl rfl rfl (z6 9 xk rfl rfl rfl (z6 10 xk rfl rfl rfl ?_));refine k8 11 [13] xk ?_ ?_;exact zS;refine(BrF.one rfl rfl ?_ (BrF.one rfl rfl ?_ BrF.nil));(· (refine v4 xk rfl rfl rfl ?_);refine q8 ?_;refine zU 13 xk rfl rfl ?_;exact zB1);(· (refine v4 xk rfl rfl rfl ?_);refine q8 ?_;refine zU 11 xk rfl rfl ?_;exact zB1)))
    refine q9 rfl (fun hx=>?_) (fun hx=>?_)
    ·have hw:inE R F T c=true:=by unfold inE;cases h1:decide (F≤loR R c)<;>rw[h1] at hx<;>simpa using hx
     rw[if_pos hw] at hb;have hN:D++[(c:Int)]=List.take (Int.toNat (D.length:Int)) D++[(c:Int)]:=by rw[Int.toNat_natCast,yx3]
     rw[hN] at hb;refine zK0 ?_;refine⟨c+1,?_,by omega,by omega⟩;rw[hb];exact zJ
    ·have hw:¬ inE R F T c=true:=by unfold inE;cases h1:decide (F≤loR R c)<;>rw[h1] at hx<;>simpa using hx
     rw[if_neg hw] at hb;refine zK0 ?_;refine⟨c+1,?_,by omega,by omega⟩;rw[hb];exact zJ
   ·replace he:=zC he;have ha:=ha (by omega);rw[← ha] at hu;clear ha hb;refine zK0 ?_;refine q9 rfl (fun h=>absurd h (by rw[hf];simp)) (fun _=>?_);refine zK0 ?_;refine q9 rfl (fun hx=>absurd hx ?_) (fun _=>?_)
    ·by_cases h1:(0:Int)<(D.length:Int)
     ·have h2:=hu (by omega);have h3:¬ (T-F+1<(D.length:Int)):=by omega
      simp[h1,h3]
     ·simp[h1];exact fun _=>hu
    clear hu;refine zK0 ?_;exact⟨k+1,by exact zJ,by omega,by omega⟩
  ·replace hd:=zC hd;refine zK0 ?_;exact⟨i+1,by exact zJ,by omega,by omega⟩
 ·replace hc:=zC hc;refine zK0 ?_;refine zR rfl trivial ?_;subst hf;rfl
def fn37(hg:g64∈gs){ps:List (List Int)}(h:VG d cs ps)(hW:W.length=10)(ha:bdR 102000 W)(hp:Sch (pG ps) cs.length p)(hd:Bnd cs.length p (loR W) (hiR W)) :
  FnE gs Tryz.prog 37 (.acons (vF d cs ps W (befL ps)) .anil) (·=vT2b):=fn37g hg h.n10 h.bef_len h.bef h.bf_1024 (P:=pG ps) (fun c a hb=>by rw[q3q] at hb;exact⟨(h.lt hb).2.1,(h.lt hb).1,hb⟩) hW ha hp hd
end Go.Proofs.YtcijjbccigbflaaGreatDoor.Ga
namespace Ox.Gl
variable {P:Nat→Nat→Bool}{n:Nat}
def z3c:∀ (m:Nat) (q:List Nat) {k:Nat},k<(greT P n m q).length→(List.range n).find? (okc P n (q++(greT P n m q).take k))=some ((greT P n m q).getD k 0)
 |0,q,k,h=>by simp[greT] at h
 |m+1,q,k,h=>by
  cases hf:(List.range n).find? (okc P n q) with
  |none=>simp[greT,hf] at h
  |some c=>
   have e:greT P n (m+1) q=c::greT P n m (q++[c]):=by simp[greT,hf]
   rw[e] at h ⊢;cases k with
   |zero=>simpa using hf
   |succ k=>have:=z3c m (q++[c]) (k:=k) (by simpa using h);simpa[yxg] using this
def z6w:∀ {m:Nat} {o:List Nat},o∈lvl P n m→∀ {k:Nat},k≤m→o.take k∈lvl P n k
 |0,o,h,k,hk=>by
  have:k=0:=by omega
  subst this;simp[lvl] at h;subst h;simp[lvl]
 |m+1,o,h,k,hk=>by
  by_cases e:k=m+1
  ·subst e;rw[yxn (by rw[(q0g h).1];exact yyn _)];exact h
  ·have h':=h;simp only[lvl,List.mem_flatMap,yy0,yy7,yyt] at h;obtain⟨p,hp,c,⟨hc,ho⟩,rfl⟩:=h;have hl:=(q0g hp).1;rw[yx7 (by omega)];exact z6w hp (by omega)
def z1c(hN:NB P n):(fstO P n).length=n:=(q0g (z68 hN)).1
def fst_get(hN:NB P n)(hk:k<n):(List.range n).find? (okc P n ((fstO P n).take k))=some ((fstO P n).getD k 0):=by have:=z3c (P:=P) (n:=n) n [] (k:=k) (by have:=z1c hN;unfold fstO at this;omega);simpa[fstO] using this
def winO(W:List RgD)(o:List Nat):Nat→List RgD
 |0=>W
 |k+1=>(winO W o k).set (o.getD k 0) ((k:Int),(k:Int),())
def q65(W:List RgD)(o:List Nat):∀ k,(winO W o k).length=W.length
 |0=>rfl
 |k+1=>by rw[winO,List.length_set,q65 W o k]
def z0g(W:List RgD)(o:List Nat)(x:Nat):∀ k,(∃ i,i<k∧o.getD i 0=x∧(winO W o k).getD x (0,0,())=((i:Int),(i:Int),()))∨(winO W o k).getD x (0,0,())=W.getD x (0,0,())
 |0=>.inr rfl
 |k+1=>by
  by_cases e:x<W.length
  ·by_cases e2:x=o.getD k 0
   ·left;refine⟨k,by omega,e2.symm,?_⟩;rw[winO,q2o (by rw[q65,← e2];exact e),if_pos e2]
   ·have:(winO W o (k+1)).getD x (0,0,())=(winO W o k).getD x (0,0,()):=by rw[winO,yyk,List.getElem?_set,if_neg fun h=>e2 h.symm,← yyk]
    rw[this];rcases z0g W o x k with⟨i,h1,h2,h3⟩|h
    ·exact .inl ⟨i,by omega,h2,h3⟩
    ·exact .inr h
  ·right;rw[yyk,yxs (by rw[q65];omega),yyk,yxs (by omega)]
variable{W:List RgD}{o:List Nat}
def z0e(hp:∀ a c,P a c=true→a<n)(hN:NB P n)(hf:∀ x,x<n→loR W x≤0∧(n:Int)-1≤hiR W x)(hk:k≤n)(ho:o.take k∈lvl P n k) :
  ∃ p,Sch P n p∧Bnd n p (loR (winO W o k)) (hiR (winO W o k)):=by
 obtain⟨p,h1,h2,h3⟩:=sch_of hp hN ho hk;have hl:=(q0g ho).1;refine⟨p,h1,fun x hx=>?_⟩;unfold loR hiR;rcases z0g W o x k with⟨i,k1,k2,k3⟩|h
 ·rw[k3];have h4:=h3 i (by omega);have h5:(o.take k)[i]'(by omega)=x:=by rw[List.getElem_take,← k2,yyk,yyl (by rw[yxa] at hl;omega)];rfl
  rw[h5] at h4;show(i:Int)≤p x∧p x≤(i:Int);omega
 ·rw[h];have h6:=hf x hx;have h7:=h2 x hx;unfold loR hiR at h6;omega
def winO_bd(h:bdR K W)(o:List Nat):∀ k:Nat,(k:Int)≤K→bdR K (winO W o k):=fun k hk i=>by
 unfold loR hiR;rcases z0g W o i k with⟨j,h1,_,h3⟩|h2
 ·rw[h3];show(-K≤(j:Int)∧(j:Int)≤K)∧-K≤(j:Int)∧(j:Int)≤K;omega
 ·rw[h2];exact h i
def winO_put(W:List RgD)(o:List Nat)(k c:Nat):(winO W o k).set c ((k:Int),(k:Int),())=winO W (o.take k++[c]) (k+1)∨o.length<k:=by
 by_cases hk:o.length<k
 ·exact .inr hk
 left;have e:∀ j,j≤k→winO W (o.take k++[c]) j=winO W o j:=by
  intro j;induction j with
  |zero=>intro _;rfl
  |succ j ih=>
   intro hj;rw[winO,winO,ih (by omega)];have:(o.take k++[c]).getD j 0=o.getD j 0:=by rw[yyk,List.getElem?_append_left (by rw[yxa];omega),yxo,if_pos (by omega),← yyk]
   rw[this]
 rw[winO,e k (yyn _)];have:(o.take k++[c]).getD k 0=c:=by rw[yyk,List.getElem?_append_right (by rw[yxa];omega),yxa,yx2 (by omega),Nat.sub_self];rfl
 rw[this]
def put_sch(hp:∀ a c,P a c=true→a<n)(hN:NB P n)(hf:∀ x,x<n→loR W x≤0∧(n:Int)-1≤hiR W x)(hk:k<n)(ho:o.take k∈lvl P n k)(hc:c<n)(ha:okc P n (o.take k) c=true) :
  ∃ p,Sch P n p∧Bnd n p (loR ((winO W o k).set c ((k:Int),(k:Int),()))) (hiR ((winO W o k).set c ((k:Int),(k:Int),()))):=by
 have hl:=(q0g ho).1;rw[yxa] at hl;rcases winO_put W o k c with e|e
 ·rw[e];have h2:=z04 ho hc ha;have h3:(o.take k++[c]).take (k+1)=o.take k++[c]:=yxn (by simp;omega);exact z0e hp hN hf (o:=o.take k++[c]) (k:=k+1) (by omega) (by rw[h3];exact h2)
 ·omega
def find_lt{f:Nat→Bool}{n x:Nat}(h:(List.range n).find? f=some x):x<n∧f x=true∧∀ i,i<x→f i=false:=by
 refine⟨yyt.1 (List.mem_of_find?_eq_some h),List.find?_some h,fun i hi=>?_⟩;obtain⟨h1,az,bs,h2,h3⟩:=List.find?_eq_some_iff_append.1 h;have ha:az.length=x:=by have h5:=congrArg (fun l=>l[az.length]?) h2;simp only[List.getElem?_append_right (yyn _),Nat.sub_self,List.getElem?_cons_zero] at h5;rw[List.getElem?_range (by have:=congrArg List.length h2;simp at this;omega)] at h5;simpa using h5
 have hb:i∈az:=by have h6:=congrArg (fun l=>l[i]?) h2;simp only[List.getElem?_append_left (show i<az.length by omega)] at h6;rw[List.getElem?_range (by have:=congrArg List.length h2;simp at this;omega)] at h6;exact List.mem_of_getElem? h6.symm
 simpa using h3 i hb
end Ox.Gl
namespace Go.Proofs.YtcijjbccigbflaaGreatDoor.Ga
open Go Go.RowKit Ox Ox.Gl Ox.Rn
attribute [local irreducible] JC JL JK JW
abbrev ppF(d:Int)(cs:List CoD)(ps:List (List Int))(W:List RgD)(B:List Int):AV:=.val (.ptr (.ptr sfT)) (some (some (mkF d cs ps W B)))
abbrev vPlc(d:Int)(cs:List CoD)(ps:List (List Int))(W:List RgD)(B:List Int):AV:=.fn 110 .anil (.acons (ppF d cs ps W B) .anil)
def fn63(d:Int)(cs:List CoD)(ps:List (List Int))(W:List RgD)(B:List Int):Ox.Fn Tryz.prog 63 (.acons (vF d cs ps W B) .anil) (·=vPlc d cs ps W B):=by
 refine Ox.Fn.intro xok Tryz.func63 rfl Tryz.call63 (yyc rfl) (fun E M0 up=>?_);refine JK.start ?_;refine zK0 ?_;refine j4p ?_
 (refine z7y [0] [1] rfl ?_)
 refine zK0 ?_;refine zR rfl trivial ?_;rfl
section
variable {E:World}{Mx M0:Mem}{nX:Nat}{rdX:Option Nat}{up:Nat→Nat→Value}{dp lab:Nat}{r:List Fr}{QA:Exit→S→Prop}
def plc_it(n:Nat)(K:Nat→List (Nat×HO))(hb:n≤1000)
  (hY:∀ k,k<n→YO ⟨Tryz.prog,tys,ets,mts,E,Mx,nX,rdX,up,dp⟩ 18 lab (.acons (vI (k:Int)) .anil) (K k) 100 true (K (k+1)) 100)
  (k:∀ L,JK ⟨Tryz.prog,tys,ets,mts,E,M0,18,none,up,dp⟩ r QA ⟨L,K n,100⟩) :
  JK ⟨Tryz.prog,tys,ets,mts,E,M0,18,none,up,dp⟩ (.code (lpC Tryz.f110.body)::.blk 0::r) QA ⟨[(0,.lf (.yld lab)),(9,vI (n:Int)),(10,vI 0)],K 0,100⟩:=by
 refine JK.loop (fun i:Nat=>⟨[(0,.lf (.yld lab)),(9,vI (n:Int)),(10,vI (i:Int))],K i,100⟩) (fun i=>i≤n) (fun i=>n-i) 0 (yyu _) (JW.refl _) fun i hi=>?_;have ha:i=n→K i=K n:=fun e=>by rw[e]
 refine zK0 ?_;refine q9 rfl (fun hc=>?_) (fun hc=>?_)
 ·replace hc:=zC hc;have y1:=hY i (by omega);refine zK0 ?_;refine z36 (X:=⟨Tryz.prog,tys,ets,mts,E,Mx,nX,rdX,up,dp⟩) [0,9,10] y1 rfl rfl rfl (by simp[stayL,stayB,svL,lk]) trivial ?_;refine zK0 ?_;refine q9 rfl (fun h=>by cases h) (fun _=>?_);refine zK0 ?_;exact⟨i+1,JW.same ⟨rfl,rfl,rfl,trivial⟩,by omega,by omega⟩
 ·replace hc:=zC hc;rw[ha (by omega)];refine zK0 ?_;exact k _
end
def j2k:∀ (M M':Mem) (ρ:Env) (v:Value),vT2b.rv M' ρ v→vT2b.rv M ρ v:=fun M M' ρ v h=>by simp only[AV.rv,AV.rvs,Rep,List.length_nil,true_or,and_true] at h ⊢;exact h
abbrev LO43:List (Nat×AV):=[(1,.lf (.optr 0 [])),(3,.lf (.optr 1 [])),(6,.lf (.optr 3 [])),(7,.lf (.optr 4 []))]
abbrev KXv(st:LoopState)(c e:Code)(d:Int)(cs:List CoD)(ps:List (List Int))(B:List Int)(W W':List RgD)(ot:List Int)(lv:AV):List (Nat×HO):=
 [(7,.fr 0 [(43,.lf (.yld 6)),(1,.lf (.optr 0 [])),(3,.lf (.optr 1 [])),(6,.lf (.optr 3 [])),(7,.lf (.optr 4 []))]),(6,.loop st none #[20] c e 43 LO43),
  (0,.cell (.ptr sfT) (vF d cs ps W B)),(1,.cell sfT (.val sfT (mkF d cs ps W' B))),(3,.cell (.slice (.int .i64)) (.lf (.osl 5))),(5,.sl 3 (.int .i64) ot),(4,.cell (.int .u64) lv)]
abbrev KX(st:LoopState)(c e:Code)(d:Int)(cs:List CoD)(ps:List (List Int))(B:List Int)(W W':List RgD)(ot:List Int)(lies:Nat):List (Nat×HO):=KXv st c e d cs ps B W W' ot (vS64 lies)
def KM(c e:Code)(d:Int)(cs:List CoD)(ps:List (List Int))(B:List Int)(W:List RgD)(o:List Nat)(k:Nat):List (Nat×HO):=KX .ready c e d cs ps B W (winO W o k) ((o.take k).map Int.ofNat) (bitsQ (o.take k))
abbrev LB43:List (Nat×AV):=[(1,.lf (.optr 0 [])),(3,.lf (.optr 1 [])),(6,.lf (.optr 3 [])),(7,.lf (.optr 4 [])),(8,.lf (.optr 101 []))]
abbrev KB(c e:Code)(d:Int)(cs:List CoD)(ps:List (List Int))(B:List Int)(W W':List RgD)(ot:List Int)(lies k:Nat):List (Nat×HO):=(102,.fr 2 LB43)::(101,.cell (.int .i64) (vI (k:Int)))::(100,.fr 1 [(18,.lf (.yld 6))])::KX .busy c e d cs ps B W W' ot lies
abbrev fn66A:AV:=.fn 66 .anil (.acons (.lf (.optr 4 [])) (.acons (.lf (.optr 0 [])) (.acons (.lf (.optr 101 [])) (.acons (.lf (.optr 1 [])) .anil))))
variable {gs:List Gt}
abbrev LD43(cs:List CoD)(i:Nat):List (Nat×AV):=[(1,fn66A),(5,vI (i:Int)),(7,vI cs.length),(8,vI (i:Int))]
section
variable {E:World}{Ma Mb Mc:Mem}{na nb:Nat}{rda:Option Nat}{upa upb upc:Nat→Nat→Value}{a1 b1:Code}
variable{cs:List CoD}{W W':List RgD}
set_option maxHeartbeats 2000000 in
def good_in(hz:LaidW gs E){ps:List (List Int)}{res:Bool}(hW:W.length=10)(hp:W'.length=10)(hc:c<cs.length)(he:cs.length≤10)(hk:k<cs.length)(hl:lies<1024)
  {bc:Nat} (hg:B.length=10) (hh:B.getD c 0=(bc:Int)) (hu:bc<1024) (hv:loR W c≤0∧(cs.length:Int)-1≤hiR W c)
  (ha:res=(!(lies.testBit c)&&(bc ^^^ (bc &&& lies)==0))) (c80:res=true→FnE gs Tryz.prog 37 (.acons (vF d cs ps (W'.set c ((k:Int),(k:Int),())) B) .anil) (·=vT2b))
  {K:AV→List (Nat×AV)→List (Nat×HO)→Nat→Prop} (hK:K (vB res) (LD43 cs c) (KB a1 b1 d cs ps B W W' ot lies k) 110) :
  JK (Ctx.sub (Ctx.sub ⟨Tryz.prog,tys,ets,mts,E,Ma,na,rda,upa,2⟩ Mb nb none upb) Mc Tryz.f66.ntmps none upc) [.code (Tryz.f66.body.getD .skip)]
   (inlQ (Ctx.sub ⟨Tryz.prog,tys,ets,mts,E,Ma,na,rda,upa,2⟩ Mb nb none upb) Tryz.f66.results.toList K) ⟨[(0,vI (c:Int)),(1,.lf (.optr 4 [])),(2,.lf (.optr 0 [])),(3,.lf (.optr 101 [])),(4,.lf (.optr 1 []))],(103,.fr 3 (LD43 cs c))::KB a1 b1 d cs ps B W W' ot lies k,104⟩:=by
 refine cdf (fn:=Tryz.f66) rfl ?_;obtain⟨b,hb⟩:∃ b,b=true:=⟨true,rfl⟩;have c29:=fn31 (d:=d) (cs:=cs) (ps:=ps) W B (c:=c) (k:Int) (by omega) hW;rw[show decide (loR W c≤(k:Int)∧(k:Int)≤hiR W c)=b from by rw[hb,yyr];omega] at c29;have hw:=q08 (n:=c) (by omega);have hy:0≤B.getD (Int.toNat (c:Int)) (Ty.int .u64).dflt∧B.getD (Int.toNat (c:Int)) (Ty.int .u64).dflt<1024:=by show 0≤B.getD c 0∧B.getD c 0<1024;omega
 have hj:B.getD (Int.toNat (c:Int)) (Ty.int .u64).dflt=(bc:Int):=hh;have hV:(bif (bif (((((lies:Nat):Int).toNat &&& ((1:Int)*2 ^ (Int.toNat (c:Int))).toNat:Nat):Int) != 0) then true else((((B.getD (Int.toNat (c:Int)) (Ty.int .u64).dflt).toNat ^^^ ((B.getD (Int.toNat (c:Int)) (Ty.int .u64).dflt).toNat &&& ((lies:Nat):Int).toNat):Nat):Int) != 0)) then true else !b)=!res:=by
  rw[hj,ha,hb,Int.toNat_natCast,Int.toNat_natCast,Int.toNat_natCast,q3i];by_cases z:lies.testBit c=true
  ·have z1:(((lies &&& 2 ^ c:Nat):Int) != 0)=true:=by have:=q6l.2 z;simp;exact_mod_cast this
   rw[z1,z];simp
  ·have z0:lies &&& 2 ^ c=0:=by refine yxj fun h=>z (q6l.1 h)
   rw[z0];simp at z;rw[z];by_cases y:bc ^^^ (bc &&& lies)=0
   ·simp[y]
   ·have:(((bc ^^^ (bc &&& lies):Nat):Int) != 0)=true:=by simp;exact_mod_cast y
    rw[this];simp[y]
 refine zK1 ?_;refine y5 xk (Tryz.f66.body.getD .skip) ⟨[(0,vI (c:Int)),(3,.lf (.optr 101 [])),(4,.lf (.optr 1 [])),(32,vB (bif (bif (((((lies:Nat):Int).toNat &&& ((1:Int)*2 ^ (Int.toNat (c:Int))).toNat:Nat):Int) != 0) then true else((((B.getD (Int.toNat (c:Int)) (Ty.int .u64).dflt).toNat ^^^ ((B.getD (Int.toNat (c:Int)) (Ty.int .u64).dflt).toNat &&& ((lies:Nat):Int).toNat):Nat):Int) != 0)) then true else !b))],(103,.fr 3 (LD43 cs c))::KB a1 b1 d cs ps B W W' ot lies k,104⟩ rfl 23 rfl ?_ ?_
 ·(refine q7 1 xk rfl rfl (q7 2 xk rfl rfl (z7 0 xk rfl rfl (z7 3 xk rfl rfl (z7 4 xk rfl rfl (z7 5 xk rfl rfl ?_)))));refine k8 6 [7,12] xk ?_ ?_;exact zS;refine(BrF.one rfl rfl ?_ (BrF.one rfl rfl ?_ (BrF.one rfl rfl ?_ BrF.nil)));(· (refine v4 xk rfl rfl rfl ?_);refine q8 ?_;refine z6 7 xk rfl rfl rfl (z6 8 xk rfl rfl rfl (z6 9 xk rfl rfl rfl (z6 10 xk rfl rfl rfl ?_)));refine k8 11 [12] xk ?_ ?_;exact zS;refine(BrF.one rfl rfl ?_ (BrF.one rfl rfl ?_ BrF.nil));(· (refine v4 xk rfl rfl rfl ?_);refine q8 ?_;refine zU 12 xk rfl rfl ?_;(refine v4 xk rfl rfl rfl ?_);refine q8 ?_;refine z6 13 xk rfl rfl rfl (z6 14 xk rfl rfl rfl (q7 15 xk rfl rfl (q7 16 xk rfl rfl (z6 18 xk rfl rfl rfl ?_))));refine k8 17 [19] xk ?_ ?_;exact zS;refine(BrF.one rfl rfl ?_ (BrF.one rfl rfl ?_ BrF.nil));(· (refine v4 xk rfl rfl rfl ?_);refine q8 ?_;refine zU 19 xk rfl rfl ?_;(refine v4 xk rfl rfl rfl ?_);refine q8 ?_;refine zU 20 xk rfl rfl ?_;(refine q13 rfl rfl (fun hgd=>c29) rfl trivial rfl ?_);refine q8 ?_;refine z6 21 xk rfl rfl rfl (q7 22 xk rfl rfl ?_);refine v6 xk ?_ ?_;exact zS;(exact zJ));(· (refine v4 xk rfl rfl rfl ?_);refine q8 ?_;refine zU 17 xk rfl rfl ?_;(refine v4 xk rfl rfl rfl ?_);refine q8 ?_;refine zU 20 xk rfl rfl ?_;exact zB0));(· (refine v4 xk rfl rfl rfl ?_);refine q8 ?_;refine zU 11 xk rfl rfl ?_;(refine v4 xk rfl rfl rfl ?_);refine q8 ?_;refine z6 13 xk rfl rfl rfl (z6 14 xk rfl rfl rfl (q7 15 xk rfl rfl (q7 16 xk rfl rfl (z6 18 xk rfl rfl rfl ?_))));refine k8 17 [19] xk ?_ ?_;exact zS;refine(BrF.one rfl rfl ?_ (BrF.one rfl rfl ?_ BrF.nil));(· (refine v4 xk rfl rfl rfl ?_);refine q8 ?_;refine zU 19 xk rfl rfl ?_;(refine v4 xk rfl rfl rfl ?_);refine q8 ?_;refine zU 20 xk rfl rfl ?_;(refine q13 rfl rfl (fun hgd=>c29) rfl trivial rfl ?_);refine q8 ?_;refine z6 21 xk rfl rfl rfl (q7 22 xk rfl rfl ?_);refine v6 xk ?_ ?_;exact zS;(exact zJ));exact zB6));(· (refine v4 xk rfl rfl rfl ?_);refine q8 ?_;refine k8 6 [12] xk ?_ ?_;exact zS;refine(BrF.one rfl rfl ?_ (BrF.one rfl rfl ?_ BrF.nil));(· (refine v4 xk rfl rfl rfl ?_);refine q8 ?_;refine z6 8 xk rfl rfl rfl (z6 9 xk rfl rfl rfl (z6 10 xk rfl rfl rfl ?_));refine k8 11 [12] xk ?_ ?_;exact zS;refine(BrF.one rfl rfl ?_ (BrF.one rfl rfl ?_ BrF.nil));(· (refine v4 xk rfl rfl rfl ?_);refine q8 ?_;refine zU 12 xk rfl rfl ?_;(refine v4 xk rfl rfl rfl ?_);refine q8 ?_;refine z6 13 xk rfl rfl rfl (z6 14 xk rfl rfl rfl (q7 15 xk rfl rfl (q7 16 xk rfl rfl (z6 18 xk rfl rfl rfl ?_))));refine k8 17 [19] xk ?_ ?_;exact zS;refine(BrF.one rfl rfl ?_ (BrF.one rfl rfl ?_ BrF.nil));(· (refine v4 xk rfl rfl rfl ?_);refine q8 ?_;refine zU 19 xk rfl rfl ?_;(refine v4 xk rfl rfl rfl ?_);refine q8 ?_;refine zU 20 xk rfl rfl ?_;(refine q13 rfl rfl (fun hgd=>c29) rfl trivial rfl ?_);refine q8 ?_;refine z6 21 xk rfl rfl rfl (q7 22 xk rfl rfl ?_);refine v6 xk ?_ ?_;exact zS;(exact zJ));exact zB6);(· (refine v4 xk rfl rfl rfl ?_);refine q8 ?_;refine zU 11 xk rfl rfl ?_;(refine v4 xk rfl rfl rfl ?_);refine q8 ?_;refine z6 13 xk rfl rfl rfl (z6 14 xk rfl rfl rfl (q7 15 xk rfl rfl (q7 16 xk rfl rfl (z6 18 xk rfl rfl rfl ?_))));refine k8 17 [19] xk ?_ ?_;exact zS;refine(BrF.one rfl rfl ?_ (BrF.one rfl rfl ?_ BrF.nil));(· (refine v4 xk rfl rfl rfl ?_);refine q8 ?_;refine zU 19 xk rfl rfl ?_;(refine v4 xk rfl rfl rfl ?_);refine q8 ?_;refine zU 20 xk rfl rfl ?_;(refine q13 rfl rfl (fun hgd=>c29) rfl trivial rfl ?_);refine q8 ?_;refine z6 21 xk rfl rfl rfl (q7 22 xk rfl rfl ?_);refine v6 xk ?_ ?_;exact zS;(exact zJ));exact zB6));(· (refine v4 xk rfl rfl rfl ?_);refine q8 ?_;refine zU 6 xk rfl rfl ?_;(refine v4 xk rfl rfl rfl ?_);refine q8 ?_;refine z6 8 xk rfl rfl rfl (z6 9 xk rfl rfl rfl (z6 10 xk rfl rfl rfl (zU 11 xk rfl rfl ?_)));(refine v4 xk rfl rfl rfl ?_);refine q8 ?_;refine z6 13 xk rfl rfl rfl (z6 14 xk rfl rfl rfl (q7 15 xk rfl rfl (q7 16 xk rfl rfl (z6 18 xk rfl rfl rfl ?_))));refine k8 17 [19] xk ?_ ?_;exact zS;refine(BrF.one rfl rfl ?_ (BrF.one rfl rfl ?_ BrF.nil));(· (refine v4 xk rfl rfl rfl ?_);refine q8 ?_;refine zU 19 xk rfl rfl ?_;(refine v4 xk rfl rfl rfl ?_);refine q8 ?_;refine zU 20 xk rfl rfl ?_;exact zB0);(· (refine v4 xk rfl rfl rfl ?_);refine q8 ?_;refine zU 17 xk rfl rfl ?_;(refine v4 xk rfl rfl rfl ?_);refine q8 ?_;refine zU 20 xk rfl rfl ?_;(refine q13 rfl rfl (fun hgd=>c29) rfl trivial rfl ?_);refine q8 ?_;refine z6 21 xk rfl rfl rfl (q7 22 xk rfl rfl ?_);refine v6 xk ?_ ?_;exact zS;(exact zJ))));(· (refine v4 xk rfl rfl rfl ?_);refine q8 ?_;refine z6 7 xk rfl rfl rfl (zU 6 xk rfl rfl ?_);(refine v4 xk rfl rfl rfl ?_);refine q8 ?_;refine z6 8 xk rfl rfl rfl (z6 9 xk rfl rfl rfl (z6 10 xk rfl rfl rfl (zU 11 xk rfl rfl ?_)));(refine v4 xk rfl rfl rfl ?_);refine q8 ?_;refine z6 13 xk rfl rfl rfl (z6 14 xk rfl rfl rfl (q7 15 xk rfl rfl (q7 16 xk rfl rfl (z6 18 xk rfl rfl rfl ?_))));refine k8 17 [19] xk ?_ ?_;exact zS;refine(BrF.one rfl rfl ?_ (BrF.one rfl rfl ?_ BrF.nil));(· (refine v4 xk rfl rfl rfl ?_);refine q8 ?_;refine zU 19 xk rfl rfl ?_;(refine v4 xk rfl rfl rfl ?_);refine q8 ?_;refine zU 20 xk rfl rfl ?_;(refine q13 rfl rfl (fun hgd=>c29) rfl trivial rfl ?_);refine q8 ?_;refine z6 21 xk rfl rfl rfl (q7 22 xk rfl rfl ?_);refine v6 xk ?_ ?_;exact zS;(exact zJ));(· (refine v4 xk rfl rfl rfl ?_);refine q8 ?_;refine zU 17 xk rfl rfl ?_;(refine v4 xk rfl rfl rfl ?_);refine q8 ?_;refine zU 20 xk rfl rfl ?_;exact zB0)))
 rw[hV];clear hV;refine q9 rfl (fun hd=>?_) (fun hd=>?_)
 ·have:res=false:=by simpa using hd
  subst this
  (repeat (first|refine zs rfl ?_))
  refine o9 (s':=⟨[(6,vB false)],(103,.fr 3 (LD43 cs c))::KB a1 b1 d cs ps B W W' ot lies k,110⟩) (by exact zJ) ?_;refine n3 ?_;exact q5m rfl rfl rfl rfl hK
 ·have e:res=true:=by simpa using hd
  replace c80:=c80 e;subst e;refine zK0 ?_;refine z13 (gs:=gs) hz rfl rfl rfl c80 j2k rfl trivial ?_
  (repeat (first|refine zs rfl ?_))
  refine o9 (s':=⟨[(6,vB true)],(103,.fr 3 (LD43 cs c))::KB a1 b1 d cs ps B W W' ot lies k,110⟩) (by exact zJ) ?_;refine n3 ?_;exact q5m rfl rfl rfl rfl hK
set_option maxHeartbeats 2000000 in
def least_in(hz:LaidW gs E){ps:List (List Int)}{lies k x:Nat}{ok:Nat→Bool}(hW:W.length=10)(he:W'.length=10)(hb:cs.length≤10)(hk:k<cs.length)(hl:lies<1024)
  {bf:Nat→Nat} (hd:B.length=10) (hg:∀ c,B.getD c 0=(bf c:Int)) (hh:∀ c,bf c<1024) (hj:∀ c,c<cs.length→loR W c≤0∧(cs.length:Int)-1≤hiR W c)
  (hp:∀ c,c<cs.length→ok c=(!(lies.testBit c)&&(bf c ^^^ (bf c &&& lies)==0))) (c80:∀ c,c<cs.length→ok c=true→FnE gs Tryz.prog 37 (.acons (vF d cs ps (W'.set c ((k:Int),(k:Int),())) B) .anil) (·=vT2b))
  (hx:x<cs.length∧ok x=true∧∀ i,i<x→ok i=false)
  {K:AV→List (Nat×AV)→List (Nat×HO)→Nat→Prop} (hK:K (vI (x:Int)) LB43 ((101,.cell (.int .i64) (vI (k:Int)))::(100,.fr 1 [(18,.lf (.yld 6))])::KX .busy a1 b1 d cs ps B W W' ot lies) 110) :
  JK (Ctx.sub ⟨Tryz.prog,tys,ets,mts,E,Ma,na,rda,upa,2⟩ Mb Tryz.f65.ntmps none upb) [.code (Tryz.f65.body.getD .skip)]
   (inlQ ⟨Tryz.prog,tys,ets,mts,E,Ma,na,rda,upa,2⟩ Tryz.f65.results.toList K) ⟨[(0,.val (.slice coT) cs),(1,fn66A)],KB a1 b1 d cs ps B W W' ot lies k,103⟩:=by
 refine cdf (fn:=Tryz.f65) rfl ?_;refine zK0 ?_;refine JK.loop (fun i:Nat=>⟨[(1,fn66A),(7,vI cs.length),(8,vI (i:Int))],KB a1 b1 d cs ps B W W' ot lies k,103⟩) (fun i=>i≤x) (fun i=>cs.length-i) 0 (yyu _) (by exact zJ) fun i hi=>?_;refine zK0 ?_;refine q9 rfl (fun hc=>?_) (fun hc=>?_)
 ·replace hc:=zC hc;have ha:i<cs.length:=by omega
  refine zK0 ?_;refine JK.inl [1,5,7,8] rfl rfl trivial Tryz.func66 rfl Tryz.call66 (yyc rfl) rfl fun M6 up6=>?_;refine cdt (fn:=Tryz.f66) rfl ?_;refine good_in hz (res:=ok i) hW he ha hb hk hl hd (hg i) (hh i) (hj i ha) (hp i ha) (c80 i ha) ?_;have hu:=hx.2.2 i;cases e:ok i with
  |true=>
   have:i=x:=Nat.le_antisymm hi (Nat.not_lt.1 fun h=>by rw[hu h] at e;cases e);subst this;refine zK0 ?_;refine q9 rfl (fun _=>?_) (fun h=>by cases h)
   (repeat (first|refine zs rfl ?_))
   refine o9 (s':=⟨[(4,vI (i:Int))],KB a1 b1 d cs ps B W W' ot lies k,110⟩) (by exact zJ) ?_;refine n3 ?_;exact q5m rfl rfl rfl rfl hK
  |false=>
   have:i≠x:=fun h=>by rw[h,hx.2.1] at e;cases e
   refine zK0 ?_;refine q9 rfl (fun h=>by cases h) (fun _=>?_);refine zK0 ?_;exact⟨i+1,by exact zJ,by omega,by omega⟩
 ·replace hc:=zC hc;omega
end
set_option maxHeartbeats 2000000 in
def fn28(hg:g64∈gs){cs:List CoD}{ps:List (List Int)}(h:VG d cs ps){W:List RgD}(hW:W.length=10)(hD:bdR 102000 W)(hj:∀ x,x<cs.length→loR W x≤0∧(cs.length:Int)-1≤hiR W x) :
  FnE gs Tryz.prog 28 (.acons (vF d cs ps W (befL ps)) .anil) (·=vL ((fstO (pG ps) cs.length).map Int.ofNat)):=by
 refine Ox.FnX.intro xok Tryz.func28 rfl Tryz.call28 (yyc rfl) (fun E M0 up hz=>?_);refine JK.start ?_;have hd:=h.n10;have hl:∀ a c,pG ps a c=true→a<cs.length:=fun a c hp=>(h.lt hp).1;obtain⟨p0,hE,hF⟩:=z0e hl h.nb hj (o:=[]) (k:=0) (yyu _) (by simp[lvl]);have c80a:=fun(W':List RgD) h1 h2 (h3:∃ p,Sch (pG ps) cs.length p∧Bnd cs.length p (loR W') (hiR W'))=>fn37 hg h (W:=W') h1 h2 h3.choose_spec.1 h3.choose_spec.2;have c80:=c80a W hW hD ⟨p0,hE,hF⟩;have c81:=fn63 d cs ps W (befL ps);have hG:=h.bef;have hM:=h.bf_1024;have he:=h.bef_len;generalize befL ps=B at c80a c80 c81 hG he ⊢;refine zK0 ?_;refine z13 (gs:=gs) hz rfl rfl rfl c80 j2k rfl trivial ?_;refine zK0 ?_;refine q9 rfl (fun h=>absurd h (by decide)) (fun _=>?_)
 (repeat (first|refine zs rfl ?_|refine ze rfl (c81) rfl ?_))
 refine z37 3 3 (.int .i64) rfl ?_;refine q87 [1,3,6,7] rfl rfl rfl Tryz.func110 rfl Tryz.call110 (yyc rfl) trivial fun M3 up3 a1 b1 hN hP=>?_;refine zK0 ?_;have hQ:=z1c h.nb;have hu:=fun k (hk:k<cs.length)=>fst_get h.nb hk;have hH:=z68 h.nb;generalize fstO (pG ps) cs.length=o at hQ hu hH ⊢;refine o9 (s':=⟨[(0,.lf (.yld 6)),(9,vI (cs.length:Int)),(10,vI 0)],KM a1 b1 d cs ps B W o 0,100⟩) (by exact zJ) ?_;refine plc_it (Mx:=M3) (nX:=18) (rdX:=none) cs.length (KM a1 b1 d cs ps B W o) (by omega) (fun k hk=>?_) (fun L=>?_)
 ·refine YO.intro 0 43 (ps:=#[20]) (assign:=a1) (body:=b1) (nO:=43) (LO:=LO43) (L0:=[(20,vI (k:Int)),(1,.lf (.optr 0 [])),(3,.lf (.optr 1 [])),(6,.lf (.optr 3 [])),(7,.lf (.optr 4 []))]) rfl rfl rfl ⟨7,_,rfl,rfl⟩ ⟨7,_,rfl,rfl⟩ fun M4 M5 up5 bl hY=>JK.start (q1d hN ?_);refine zK0 ?_;refine JK.done (z1u rfl rfl rfl rfl (JK.start (q1d hP ?_)));refine zK0 ?_;have hv:=z6w hH (k:=k) (by omega);have hh:=(q0g hv).2.2;have hR:bitsQ (o.take k)<2 ^ cs.length:=z1q hh;have hZ:=z2p hd;have hx:=find_lt (hu k hk);have hw:o.take (k+1)=o.take k++[o.getD k 0]:=by rw[yxy (by omega),j7 o (by omega)]
  have hy:winO W o (k+1)=(winO W o k).set (o.getD k 0) ((k:Int),(k:Int),()):=rfl;have hJ:bitsQ (o.take (k+1))=bitsQ (o.take k) ||| 2 ^ (o.getD k 0):=by rw[hw,q4b]
  have hK:(o.take (k+1)).map Int.ofNat=(o.take k).map Int.ofNat++[((o.getD k 0:Nat):Int)]:=by rw[hw,yx4];rfl
  have hA:=(q65 W o k).trans hW;have hL:=winO_bd hD o k (by omega);have ha:∀ c,c<cs.length→okc (pG ps) cs.length (o.take k) c=(!((bitsQ (o.take k)).testBit c)&&(bfN ps c ^^^ (bfN ps c &&& bitsQ (o.take k))==0)):=fun c hc=>by rw[← z6n,j0v (bf:=bfN ps) (fun c a _=>q3q ps c a) hl hc]
  have hB:∀ c,c<cs.length→okc (pG ps) cs.length (o.take k) c=true→FnE gs Tryz.prog 37 (.acons (vF d cs ps ((winO W o k).set c ((k:Int),(k:Int),())) B) .anil) (·=vT2b):=fun c hc hT=>by
   refine c80a _ (by rw[List.length_set,hA]) (fun i=>?_) (put_sch hl h.nb hj hk hv hc hT);unfold loR hiR;rw[q2o (by omega)];split
   ·dsimp only;omega
   ·exact hL i
  have hU:(winO W o k).getD 0 (0,0,())=(winO W o k).getD 0 (0,0,()):=rfl;show JK _ _ _ ⟨_,(101,.cell (.int .i64) (vI (k:Int)))::(100,.fr 1 [(18,.lf (.yld 6))])::KX .busy a1 b1 d cs ps B W (winO W o k) ((o.take k).map Int.ofNat) (bitsQ (o.take k)),102⟩;rw[show KM a1 b1 d cs ps B W o (k+1)=KX .ready a1 b1 d cs ps B W (winO W o (k+1)) ((o.take (k+1)).map Int.ofNat) (bitsQ (o.take (k+1))) from rfl,hy,hJ,hK];have hb:((o.take k).map Int.ofNat).length≤10:=by simp;omega
  generalize winO W o k=W' at hA hB hy ⊢;generalize (o.take k).map Int.ofNat=ot at hb ⊢;generalize bitsQ (o.take k)=lies at hR ha ⊢;generalize h0:o.getD k 0=x at hx ⊢;refine JK.inl [1,3,6,7,8] rfl rfl trivial Tryz.func65 rfl Tryz.call65 (yyc rfl) rfl fun M6 up6=>?_;refine cdt (fn:=Tryz.f65) rfl ?_;refine least_in (ok:=okc (pG ps) cs.length (o.take k)) (x:=x) hz hW hA hd hk (by omega) he hG hM (fun c hc=>hj c hc) ha hB hx ?_;have h4:=hx.1;have h5:=q08 (n:=x) (by omega);clear ha hB hx hJ hK hw hv hh c80a c80 c81 hu hy hU hL hE hF;refine zK1 ?_;refine y5 xk (Tryz.f28.body.getD .skip) ⟨[(1,.lf (.optr 0 [])),(3,.lf (.optr 1 [])),(6,.lf (.optr 3 [])),(7,.lf (.optr 4 [])),(9,vI (x:Int))],(100,.fr 1 [(18,.lf (.yld 6))])::KXv .busy a1 b1 d cs ps B W (W'.set x ((k:Int),(k:Int),())) ot (.val (.int .u64) (((((lies:Nat):Int).toNat ||| ((1:Int)*2 ^ (Int.toNat (x:Int))).toNat:Nat)):Int)),110⟩ rfl 5 rfl ?_ ?_
  ·(refine q7 1 xk rfl rfl (q7 2 xk rfl rfl (z7 0 xk rfl rfl (z7 3 xk rfl rfl (zU 4 xk rfl rfl ?_))));exact zB3)
  refine zK0 ?_;refine JK.done (bodyQ.of rfl rfl rfl rfl rfl rfl ⟨rfl,?_⟩);show JW _ ⟨[],KXv .ready a1 b1 d cs ps B W (W'.set x ((k:Int),(k:Int),())) (ot++[(x:Int)]) (vS64 (lies ||| 2 ^ x)),100⟩ _;rw[vS_or];exact zJ
 ·refine JK.done (rngQ.of (.inr rfl) rfl rfl rfl rfl rfl rfl rfl (z5m ?_));have hC:(o.take cs.length).map Int.ofNat=o.map Int.ofNat:=by rw[yxn (by omega)]
  rw[show KM a1 b1 d cs ps B W o cs.length=KX .ready a1 b1 d cs ps B W (winO W o cs.length) ((o.take cs.length).map Int.ofNat) (bitsQ (o.take cs.length)) from rfl,hC];have hb:(o.map Int.ofNat).length≤10:=by simp;omega
  generalize winO W o cs.length=W';generalize bitsQ (o.take cs.length)=lies;generalize o.map Int.ofNat=ot at hb ⊢
  (repeat (first|refine zs rfl ?_))
  (refine z12 [5] [2] rfl ?_)
  refine zK0 ?_;refine zR rfl trivial ?_;rfl
end Go.Proofs.YtcijjbccigbflaaGreatDoor.Ga
namespace Ox
open Go Go.RowKit
variable {X:Ctx}{M:Mem}{ρ:Env}{a:Act}{w w':World}{QA:Exit→S→Prop}{all l:List Oper}{L:List (Nat×AV)}{H:List (Nat×HO)}{nx d:Nat}{ty:TypeId}{ps:String}{af:Array Edge}{md:Bool}{rr:List Fr}
def z5y{e:Ty}{xs:List e.den}(hX:XOK X)(hT:lk X.T t=some (.slice e))(hu:opd L x=some (c1,.val (.slice e) xs))(hc:allP c1)(hn:0<xs.length)(hd:ltB d X.n=true)(kk:JK X (.ops md all l::rr) QA ⟨(d,.val .bool false)::L,H,nx⟩) :
  JK X (.ops md all (⟨some d,.binOp .eql t x (.const (.slice none 0 0)) t',ty,ps,af,none⟩::l)::rr) QA ⟨L,H,nx⟩:=by
 refine JL.vq (o:=⟨some d,.binOp .eql t x (.const (.slice none 0 0)) t',ty,ps,af,none⟩) (s:=⟨L,H,nx⟩) (v:=.val .bool false) rfl rfl (w7 hd) trivial (fun M ρ a w h1 h2=>?_) kk;have e1:=(z8 (s:=⟨L,H,nx⟩) hu hc h2).2;rw[q34] at e1;obtain⟨ad,cap,e2,_,_,_,e3⟩:=e1;obtain⟨b,off,c,cty,fz,rfl,_⟩:=e3.resolve_left (by omega);have ht:=hX.t _ _ hT;simp only[TyOf] at ht;obtain⟨eid,hs,_⟩:=ht;refine⟨.bool false,by rw[p5],fun w1=>?_⟩;have e4:a.eval (.const (.slice none 0 0))=.slice none 0 0:=rfl;have hg:(eqGuard .eql t x (.const (.slice none 0 0)) (.slice (some ⟨b,off,none⟩) xs.length cap) (.slice none 0 0)).run X.P w1=.ok () w1:=by simp[eqGuard]
 have he:(Op.equal t (.slice (some ⟨b,off,none⟩) xs.length cap) (.slice none 0 0)).run X.P w1=.ok false w1:=by unfold Op.equal Op.maxDepth Op.equalIn;simp[run_underlying hs.under]
 simp only[execOp,e2,e4,yye,hg,yyb,binOp,he,yyf]
end Ox
namespace Go.Proofs.YtcijjbccigbflaaGreatDoor.Ga
open Go Go.RowKit Ox Ox.Gl Ox.Rn
attribute [local irreducible] JC JL JK JW
abbrev vT2l(l:List Int)(e:Int):AV:=.tup (.acons (vL l) (.acons (vI e) .anil))
variable {gs:List Gt}
def fn12(hg:g64∈gs){cs:List CoD}{ps:List (List Int)}(h:VG d cs ps)(ha:∀ x,x<cs.length→loR (winL d cs) x≤0∧(cs.length:Int)-1≤hiR (winL d cs) x) :
  FnE gs Tryz.prog 12 (.acons (vG d cs ps) .anil) (·=vT2l ((fstO (pG ps) cs.length).map Int.ofNat) 0):=by
 refine Ox.FnX.intro xok Tryz.func12 rfl Tryz.call12 (yyc rfl) (fun E M0 up hz=>?_);refine JK.start ?_;have c26:=fn26 h [] (fun x hx=>absurd hx yxi);have c43:=fn28 hg h (q0w _ _) h.win_bd ha;have hb:=z1c h.nb;have hj:=h.n1;have hd:=h.n10;have he:((fstO (pG ps) cs.length).map Int.ofNat).length=cs.length:=by rw[yxh,hb]
 generalize (fstO (pG ps) cs.length).map Int.ofNat=o at c43 he ⊢
 (repeat (first|refine zs rfl ?_|refine ze rfl (c26) rfl ?_))
 refine q9 rfl (fun h=>absurd h (by decide)) (fun _=>?_);refine zK0 ?_;refine q97 (gs:=gs) hz rfl c43 rfl trivial ?_;refine zK0 ?_;refine z5y xk rfl rfl trivial (by omega) rfl ?_;refine zK0 ?_;refine q9 rfl (fun h=>by cases h) (fun _=>?_);have hh:o.length=(List.replicate (Int.toNat (o.length:Int)) (Ty.int .i64).dflt).length:=by simp
 refine zK0 ?_;refine zR rfl trivial ?_;rfl
end Go.Proofs.YtcijjbccigbflaaGreatDoor.Ga
namespace Ox.Gl
def j2r{p q:Nat→Bool}:∀ {l:List Nat},(∀ x,p x=true→q x=true)→(l.filter p).length≤(l.filter q).length
 |[],_=>yyn _
 |a::l,h=>by
  have ih:=j2r (l:=l) h;cases hp:p a
  ·cases hq:q a<;>simp[hp,hq]<;>omega
  ·simp[hp,h a hp];exact ih
def j2q{p q:Nat→Bool}:∀ {l:List Nat},(∀ x,p x=true→q x=true)→(∃ x∈l,q x=true∧p x=false)→(l.filter p).length<(l.filter q).length
 |[],_,⟨_,h,_⟩=>absurd h yxi
 |a::l,h,⟨x,hx,h1,h2⟩=>by
  rcases yym.1 hx with rfl|hx
  ·have:=j2r (l:=l) h;simp[h1,h2];omega
  ·have ih:=j2q (l:=l) h ⟨x,hx,h1,h2⟩;cases hp:p a
   ·cases hq:q a<;>simp[hp,hq]<;>omega
   ·simp[hp,h a hp];exact ih
def j0r:∀ {k j:Nat},onB P n k j=true→j<n
 |0,j,h=>by simpa[onB] using h
 |k+1,j,h=>by simp only[onB,yyd,yyr] at h;exact h.1
def z4w{P:Nat→Nat→Bool}{n:Nat}:∀ {k j:Nat},onB P n (k+1) j=true→onB P n k j=true
 |0,j,h=>by simpa[onB] using j0r h
 |k+1,j,h=>by have h1:=j0r h;rw[onB,yyd,List.any_eq_true] at h;obtain⟨_,i,h2,h3⟩:=h;rw[yyd] at h3;rw[onB,yyd,List.any_eq_true];exact⟨decide_eq_true h1,i,h2,by rw[yyd];exact⟨z4w h3.1,h3.2⟩⟩
def on_NB(h:NB P n)(i:Nat):onB P n n i=false:=by
 have key:∀ k,(∀ j,onB P n k j=false)∨((List.range n).filter (onB P n k)).length+k≤n:=by
  intro k;induction k with
  |zero=>refine .inr ?_;have:=yx8 (onB P n 0) (List.range n);simpa using this
  |succ k ih=>
   by_cases hz:∀ j,onB P n (k+1) j=false
   ·exact .inl hz
   obtain⟨j,hj⟩:=Classical.not_forall.1 hz;rw[Bool.not_eq_false] at hj;have hk:=z4w hj;obtain⟨c,h1,h2⟩:=h (fun c=>onB P n k c=true) ⟨j,hk⟩ fun c hc=>j0r hc;rcases ih with e|e
   ·rw[e j] at hk;cases hk
   refine .inr ?_;have:=j2q (l:=List.range n) (p:=onB P n (k+1)) (q:=onB P n k) (fun x=>z4w) ⟨c,yyt.2 (j0r h1),h1,by rw[← Bool.not_eq_true,onB,yyd,List.any_eq_true];rintro⟨_,a,h3,h4⟩;rw[yyd] at h4;rw[h2 a h4.1] at h4;cases h4.2⟩
   omega
 rcases key n with e|e
 ·exact e i
 ·cases hi:onB P n n i
  ·rfl
  ·have:i∈(List.range n).filter (onB P n n):=yy7.2 ⟨yyt.2 (j0r hi),hi⟩;rw[yxl (show((List.range n).filter (onB P n n)).length=0 by omega)] at this;cases this
def oneL(n i:Nat):List Int:=(List.range n).map fun j=>if j<i then 1 else 0
def oneL_len(n i:Nat):(oneL n i).length=n:=by simp[oneL]
def j0q(n:Nat):oneL n 0=List.replicate n 0:=by refine List.ext_getElem (by simp[oneL]) fun i h1 h2=>?_;simp[oneL]
def oneL_set:(oneL n i).set i 1=oneL n (i+1):=by
 refine List.ext_getElem (by simp[oneL]) fun j h1 h2=>?_;simp[oneL] at h1;rw[List.getElem_set];by_cases e:i=j
 ·subst e;rw[if_pos rfl];simp[oneL]
 ·rw[if_neg e];have:(j<i+1)=(j<i):=by rw[eq_iff_iff];omega
  simp only[oneL,List.getElem_map,List.getElem_range,this]
def oneL_all:oneL n n=onL P n 0:=by refine List.map_congr_left fun j hj=>?_;have:=yyt.1 hj;simp[onB,this]
def pr_two{p:List Int}(h:p.length=2):p=[z0 p,z1 p]:=by
 match p,h with
 |[a,b],_=>rfl
def pr_mem{ps:List (List Int)}(h2:∀ p∈ps,p.length=2)(hp:∀ p∈ps,okPr n p)(i k:Nat):decide ([(i:Int),(k:Int)]∈ps)=pG ps i k:=by
 rw[yy1,yyr,z2r];constructor
 ·intro h;exact⟨_,h,by show Int.toNat (i:Int)=i;omega,by show Int.toNat (k:Int)=k;omega⟩
 ·rintro⟨p,h,e0,e1⟩;obtain⟨⟨k1,_⟩,⟨k2,_⟩,_⟩:=hp p h;unfold q0 at e0;unfold q1 at e1;have:p=[(i:Int),(k:Int)]:=by rw[pr_two (h2 p h),show z0 p=(i:Int) by omega,show z1 p=(k:Int) by omega]
  rw[← this];exact h
open Classical in
noncomputable def chkE(d:Int)(cs:List CoD)(ps:List (List Int)):Int:=if ¬ (1≤cs.length∧cs.length≤10∧ps.length≤40) then 6 else if ¬ (1≤d∧d≤100) then 3 else if ¬ (∀ c∈cs,okCo c) then 3 else if ¬ ((∀ p∈ps,okPr cs.length p)∧ps.Nodup) then 2 else if ¬ NB (pG ps) cs.length then 16 else 0
variable {d:Int}{cs:List CoD}{ps:List (List Int)}
def chk_a(h:¬ (1≤cs.length∧cs.length≤10∧ps.length≤40)):chkE d cs ps=6:=by unfold chkE;rw[if_pos h]
def chk_b(a:1≤cs.length∧cs.length≤10∧ps.length≤40)(h:¬ (1≤d∧d≤100)):chkE d cs ps=3:=by unfold chkE;rw[if_neg fun k=>k a,if_pos h]
def chk_c(a:1≤cs.length∧cs.length≤10∧ps.length≤40)(b:1≤d∧d≤100)(h:¬ (∀ c∈cs,okCo c)):chkE d cs ps=3:=by unfold chkE;rw[if_neg fun k=>k a,if_neg fun k=>k b,if_pos h]
def chk_d(a:1≤cs.length∧cs.length≤10∧ps.length≤40)(b:1≤d∧d≤100)(c:∀ c∈cs,okCo c)(h:¬ ((∀ p∈ps,okPr cs.length p)∧ps.Nodup)):chkE d cs ps=2:=by unfold chkE;rw[if_neg fun k=>k a,if_neg fun k=>k b,if_neg fun k=>k c,if_pos h]
def chk_e(a:1≤cs.length∧cs.length≤10∧ps.length≤40)(b:1≤d∧d≤100)(c:∀ c∈cs,okCo c)(e:(∀ p∈ps,okPr cs.length p)∧ps.Nodup)(h:¬ NB (pG ps) cs.length):chkE d cs ps=16:=by unfold chkE;rw[if_neg fun k=>k a,if_neg fun k=>k b,if_neg fun k=>k c,if_neg fun k=>k e,if_pos h]
def j3e:chkE d cs ps=0↔VG d cs ps:=by
 constructor
 ·intro h;by_cases a:1≤cs.length∧cs.length≤10∧ps.length≤40
  ·by_cases b:1≤d∧d≤100
   ·by_cases c:∀ c∈cs,okCo c
    ·by_cases e:(∀ p∈ps,okPr cs.length p)∧ps.Nodup
     ·by_cases f:NB (pG ps) cs.length
      ·exact⟨a.1,a.2.1,a.2.2,b.1,b.2,c,e.1,e.2,f⟩
      ·rw[chk_e a b c e f] at h;cases h
     ·rw[chk_d a b c e] at h;cases h
    ·rw[chk_c a b c] at h;cases h
   ·rw[chk_b a b] at h;cases h
  ·rw[chk_a a] at h;cases h
 ·intro h;unfold chkE;rw[if_neg fun k=>k ⟨h.n1,h.n10,h.p40⟩,if_neg fun k=>k ⟨h.d1,h.d100⟩,if_neg fun k=>k h.co,if_neg fun k=>k ⟨h.pr,h.nd⟩,if_neg fun k=>k h.nb]
def Gone(P:Nat→Nat→Bool)(n left:Nat):Prop:=∀ S:Nat→Prop,(∀ c,S c→c<n)→(∃ c,S c∧left.testBit c=false)→∃ c,S c∧∀ a,S a→P a c=false
def j2a:Gone P n (2 ^ n-1):=fun S h1 ⟨c,h2,h3⟩=>by rw[Nat.testBit_two_pow_sub_one,decide_eq_false_iff_not] at h3;exact absurd (h1 c h2) h3
def j2b(hb:∀ c a,c<n→(bf c).testBit a=P a c)(h:Gone P n left):Gone P n (left ^^^ (left &&& freeM bf left n)):=fun S h1 ⟨c,h2,h3⟩=>by
 by_cases hm:∃ c,S c∧left.testBit c=false
 ·exact h S h1 hm
 have hall:∀ a,S a→left.testBit a=true:=fun a ha=>by
  cases e:left.testBit a
  ·exact absurd ⟨a,ha,e⟩ hm
  ·rfl
 have hc:=hall c h2;rw[Nat.testBit_xor,yxv,hc] at h3;have hf:(freeM bf left n).testBit c=true:=by
  cases e:(freeM bf left n).testBit c
  ·rw[e] at h3;cases h3
  ·rfl
 rw[q3m,yyd,yyd,beq_iff_eq] at hf;refine⟨c,h2,fun a ha=>?_⟩;rw[← hb c a (h1 c h2)];cases e:(bf c).testBit a
 ·rfl
 ·have:(bf c &&& left).testBit a=true:=by rw[yxv,e,hall a ha];rfl
  rw[hf.2] at this;simp at this
def gone_all(h:Gone P n 0):NB P n:=fun S ⟨c,hc⟩ h1=>h S h1 ⟨c,hc,by simp⟩
def not_NB(hb:∀ c a,c<n→(bf c).testBit a=P a c)(h0:left≠0)(hl:left<2 ^ n)(hf:freeM bf left n=0):¬ NB P n:=fun h=>j2j h hb h0 hl hf
def NB_none(h:∀ a c,c<n→P a c=false):NB P n:=fun S ⟨c,hc⟩ h1=>⟨c,hc,fun a _=>h a c (h1 c hc)⟩
end Ox.Gl
namespace Go.Proofs.YtcijjbccigbflaaGreatDoor.Ga
open Go Go.RowKit Ox Ox.Gl
attribute [local irreducible] JC JL JK JW
def fn36g{cs:List CoD}{ps:List (List Int)}(he:cs.length≤10)(W:List RgD)(hy:B.length=10)(hu:∀ c,B.getD c 0=(bf c:Int))(hz:∀ c,bf c<1024)
  {P:Nat→Nat→Bool} (hP:∀ c a,c<cs.length→(bf c).testBit a=P a c) {b:Bool} (hb:b=true↔¬ NB P cs.length):Ox.Fn Tryz.prog 36 (.acons (vF d cs ps W B) .anil) (·=vB b):=by
 refine Ox.Fn.intro xok Tryz.func36 rfl Tryz.call36 (yyc rfl) (fun E M0 up=>?_);refine JK.start ?_;have c84:=fn64 d cs ps W B he;have hF:=q08 he;have hG:=z2p he;have hv:NB P cs.length→vB false=vB b:=fun h=>by
  cases b
  ·rfl
  ·exact absurd h (hb.1 rfl)
 have hh:¬ NB P cs.length→vB true=vB b:=fun h=>by rw[hb.2 h]
 (repeat (first|refine zs rfl ?_|refine zeq eqBf rfl rfl rfl ?_))
 refine q9 rfl (fun hc=>?_) (fun hc=>?_)
 ·refine zK0 ?_;refine zR rfl trivial ?_;refine hv (NB_none fun a c hA=>?_);have e:B=List.replicate 10 0:=v9.1 hc;have h0:bf c=0:=by
   have:=hu c;rw[e] at this;have h2:(List.replicate 10 (0:Int)).getD c 0=0:=by rw[yyk,List.getElem?_replicate];split<;>rfl
   omega
  rw[← hP c a hA,h0];simp
 clear hc
 (repeat (first|refine zs rfl ?_|refine zc rfl (c84) rfl rfl ?_))
 refine JK.loop (fun left:Nat=>⟨[(0,vF d cs ps W B),(3,vS64 left)],[],0⟩) (fun left=>left<2 ^ cs.length∧Gone P cs.length left) (fun left=>left) (2 ^ cs.length-1) ⟨by have:=Nat.two_pow_pos cs.length;omega,j2a⟩ (by exact zJ) fun left ⟨hl,hj⟩=>?_;have hst:=j2b hP hj;have hw:=not_NB (left:=left) hP;refine zK0 ?_;refine q9 rfl (fun hc=>?_) (fun hc=>?_)
 ·have h0:left≠0:=by simpa using hc
  have hg:=z7a bf left cs.length;clear hc;refine zK0 ?_;refine JK.loop (fun c:Nat=>⟨[(0,vF d cs ps W B),(3,vS64 left),(4,vS64 (freeM bf left c)),(21,vI cs.length),(22,vI (c:Int))],[],0⟩) (fun c=>c≤cs.length∧freeM bf left c<1024) (fun c=>cs.length-c) 0 ⟨yyu _,by simp[freeM]⟩ (by exact zJ) fun c ⟨hH,hk⟩=>?_;have hs:freeM bf left (c+1)=if left &&& 2 ^ c≠0∧bf c &&& left=0 then freeM bf left c ||| 2 ^ c else freeM bf left c:=rfl
  have ha:c=cs.length→freeM bf left c=freeM bf left cs.length:=fun e=>by rw[e]
  generalize freeM bf left c=f at hk hs ha ⊢;refine zK0 ?_;refine q9 rfl (fun hc=>?_) (fun hc=>?_)
  ·replace hc:=zC hc;have hJ:c<cs.length:=by omega
   have hK:=q08 (n:=c) (by omega);have hC:=hu c;have hD:=hz c;have hL:left<1024:=by omega
   have e0:B.getD (Int.toNat (c:Int)) (Ty.int .u64).dflt=((bf c:Nat):Int):=hC;have hM:0≤B.getD (Int.toNat (c:Int)) (Ty.int .u64).dflt∧B.getD (Int.toNat (c:Int)) (Ty.int .u64).dflt<1024:=by rw[e0];omega
   have hB:(bif (((((left:Nat):Int).toNat &&& ((1:Int)*2 ^ (Int.toNat (c:Int))).toNat:Nat):Int) != 0) then((((B.getD (Int.toNat (c:Int)) (Ty.int .u64).dflt).toNat &&& ((left:Nat):Int).toNat:Nat):Int)==0) else false)=decide (left &&& 2 ^ c≠0∧bf c &&& left=0):=by
    rw[e0,Int.toNat_natCast,Int.toNat_natCast,Int.toNat_natCast,q3i,yy1];by_cases z:left &&& 2 ^ c=0
    ·simp[z]
    ·have z':(((left &&& 2 ^ c:Nat):Int) != 0)=true:=by simp;exact_mod_cast z
     rw[z',cond_true];simp[z]
   refine zK0 ?_;refine q9 rfl (fun hd=>?_) (fun hd=>?_)
   ·rw[if_pos (of_decide_eq_true (hB.symm.trans hd))] at hs;refine zK0 ?_;refine⟨c+1,?_,⟨by omega,?_⟩,by omega⟩
    ·rw[hs];rw[vS_or];exact zJ
    ·rw[hs];exact Nat.or_lt_two_pow (n:=10) hk (Nat.pow_lt_pow_right (by decide) (by omega))
   ·rw[if_neg (of_decide_eq_false (hB.symm.trans hd))] at hs;refine zK0 ?_;refine⟨c+1,?_,⟨by omega,by rw[hs];exact hk⟩,by omega⟩;rw[hs];exact zJ
  ·replace hc:=zC hc;replace ha:=ha (by omega);rw[← ha] at hst hw hg;refine zK0 ?_;refine q9 rfl (fun hd=>?_) (fun hd=>?_)
   ·have hp:f=0:=by simpa using hd
    refine zK0 ?_;refine zR rfl trivial ?_;exact hh (hw h0 hl hp)
   ·have hp:f≠0:=fun e=>by rw[e] at hd;simp at hd
    have hE:=xor_lt hg hp;refine zK0 ?_;refine⟨left ^^^ (left &&& f),?_,⟨by omega,hst⟩,hE⟩;rw[vS_not];exact zJ
 ·have h0:left=0:=by simpa using hc
  rw[h0] at hj;refine zK0 ?_;refine zR rfl trivial ?_;exact hv (gone_all hj)
end Go.Proofs.YtcijjbccigbflaaGreatDoor.Ga
namespace Go.Proofs.YtcijjbccigbflaaGreatDoor.Ga
open Go Go.RowKit Ox Ox.Gl Ox.Rn
attribute [local irreducible] JC JL JK JW
variable {gs:List Gt}
variable{cs:List CoD}
def fn35(hg:g64∈gs){ps:List (List Int)}(h:VG d cs ps)(ha:∀ x,x<cs.length→loR (winL d cs) x≤0∧(cs.length:Int)-1≤hiR (winL d cs) x)(l:List Int)(hl:∀ x∈l,0≤x∧x<cs.length) :
  FnE gs Tryz.prog 35 (.acons (vG d cs ps) (.acons (vL l) .anil)) (·=vT2f d cs ps):=by
 refine Ox.FnX.intro xok Tryz.func35 rfl Tryz.call35 (yyc rfl) (fun E M0 up hz=>?_);refine JK.start ?_;have c118:=fn26 h l hl;have hb:∀ a c,pG ps a c=true→a<cs.length:=fun a c hp=>(h.lt hp).1;obtain⟨p0,hd,he⟩:=z0e hb h.nb ha (o:=[]) (k:=0) (yyu _) (by simp[lvl]);have c126:=fn37 hg h (W:=winL d cs) (q0w _ _) h.win_bd hd he
 (repeat (first|refine zs rfl ?_|refine ze rfl (c118) rfl ?_))
 refine q9 rfl (fun h=>absurd h (by decide)) (fun _=>?_);refine zK0 ?_;refine q97 (gs:=gs) hz rfl c126 rfl trivial ?_;refine zK0 ?_;refine q9 rfl (fun h=>by cases h) (fun _=>?_);refine zK0 ?_;refine zR rfl trivial ?_;rfl
def addP(P:Nat→Nat→Bool)(i k a c:Nat):Bool:=P a c||(decide (a=k)&&decide (c=i))
def z7v:addP P i k a c=true↔P a c=true∨(a=k∧c=i):=by simp[addP]
abbrev vT2e(b:Bool):AV:=.tup (.acons (vB b) (.acons (vI 0) .anil))
set_option maxHeartbeats 1000000 in
def fn15(hg:g64∈gs){ps:List (List Int)}(h:VG d cs ps)(hv:∀ x,x<cs.length→loR (winL d cs) x≤0∧(cs.length:Int)-1≤hiR (winL d cs) x)(hi:i<cs.length)(hk:k<cs.length)(hB:i=k→b=false)(hb:i≠k→(b=true↔¬ NB (addP (pG ps) i k) cs.length)) :
  FnE gs Tryz.prog 15 (.acons (vG d cs ps) (.acons (vI (i:Int)) (.acons (vI (k:Int)) .anil))) (·=vT2e b):=by
 refine Ox.FnX.intro xok Tryz.func15 rfl Tryz.call15 (yyc rfl) (fun E M0 up hz=>?_);refine JK.start ?_;have c130:=fn35 hg h hv [(i:Int),(k:Int)] (fun x hx=>by
  rcases yym.1 hx with rfl|hx
  ·omega
  ·rw[yys.1 hx];omega)
 have he:=h.n10;have hC:=h.bef_len;have hw:=h.bef;have hy:=h.bf_1024;have hJ:∀ a c,pG ps a c=true→a<cs.length∧c<cs.length:=fun a c hp=>⟨(h.lt hp).1,(h.lt hp).2.1⟩;have hD:(winL d cs).length=10:=q0w _ _;have hE:=h.win_bd;have hF:=q08 (n:=k) (by omega);have hG:=hw i;have hK:=hy i;have ha:∀ c a,(bfN ps c).testBit a=pG ps a c:=fun c a=>q3q ps c a;refine zK0 ?_
 (refine z7y [1] [1,2,3,6,7,14,17] rfl ?_)
 refine q97 (gs:=gs) hz rfl c130 rfl trivial ?_;refine zK0 ?_;refine q9 rfl (fun hc=>?_) (fun hc=>?_)
 ·have hA:i=k:=by
   have hc:(bif ((0:Int) != 0) then true else((i:Int)==(k:Int)))=true:=hc;have:(i:Int)=k:=by simpa using hc
   omega
  rw[hB hA];refine zK0 ?_;refine zR rfl trivial ?_;rfl
 have hA:i≠k:=fun e=>by have hc:(bif ((0:Int) != 0) then true else((i:Int)==(k:Int)))=false:=hc;simp[e] at hc
 replace hb:=hb hA;clear hc hB c130;generalize befL ps=B at hC hw hG ⊢;generalize winL d cs=W at hv hD hE ⊢;have e0:B.getD (Int.toNat (i:Int)) (Ty.int .u64).dflt=((bfN ps i:Nat):Int):=hG;have hP:0≤B.getD (Int.toNat (i:Int)) (Ty.int .u64).dflt∧B.getD (Int.toNat (i:Int)) (Ty.int .u64).dflt<1024:=by rw[e0];omega
 have hQ:1≤(2:Int) ^ (Int.toNat (k:Int))∧(2:Int) ^ (Int.toNat (k:Int))≤1024:=by rw[Int.toNat_natCast];exact⟨hF.1,hF.2.1⟩
 obtain⟨B',hu⟩:∃ B',B'=B.set (Int.toNat (i:Int)) ((((B.getD (Int.toNat (i:Int)) (Ty.int .u64).dflt).toNat ||| ((1:Int)*2 ^ (Int.toNat (k:Int))).toNat:Nat)):Int):=⟨_,rfl⟩;refine zK1 ?_;refine y5 xk (Tryz.f15.body.getD .skip) ⟨[(6,vB false),(7,vI 0),(10,.lf (.optr 2 []))],[(2,.cell sfT (.val sfT (mkF d cs ps W B')))],3⟩ rfl 10 rfl ?_ ?_
 ·rw[hu]
  (refine q7 0 xk rfl rfl (q7 1 xk rfl rfl (q7 2 xk rfl rfl (q7 4 xk rfl rfl (q7 5 xk rfl rfl (q7 7 xk rfl rfl (z7 3 xk rfl rfl (z7 6 xk rfl rfl (z7 8 xk rfl rfl (zU 9 xk rfl rfl ?_)))))))));exact zB3)
 rw[e0,Int.toNat_natCast,Int.toNat_natCast,Int.toNat_natCast,q3i] at hu
 let bf':Nat→Nat:=fun c=>if c=i then bfN ps i ||| 2 ^ k else bfN ps c
 have hh:B'.length=10:=by rw[hu,List.length_set,hC]
 have hj:∀ c,B'.getD c 0=(bf' c:Int):=fun c=>by
  rw[hu,yyk,List.getElem?_set];show _=((if c=i then bfN ps i ||| 2 ^ k else bfN ps c:Nat):Int);by_cases e:i=c
  ·rw[if_pos e,if_pos (by omega),if_pos e.symm];rfl
  ·rw[if_neg e,if_neg (fun q=>e q.symm),← yyk];exact hw c
 have hl:∀ c,bf' c<1024:=fun c=>by
  show(if c=i then bfN ps i ||| 2 ^ k else bfN ps c)<1024;split
  ·exact Nat.or_lt_two_pow (n:=10) (hy i) (Nat.pow_lt_pow_right (by decide) (by omega))
  ·exact hy c
 have hH:∀ c a,(bf' c).testBit a=addP (pG ps) i k a c:=fun c a=>by
  show(if c=i then bfN ps i ||| 2 ^ k else bfN ps c).testBit a=_;unfold addP;by_cases e:c=i
  ·rw[if_pos e,Nat.testBit_or,ha,Nat.testBit_two_pow,e];simp[eq_comm]
  ·rw[if_neg e,ha];simp[e]
 have hd:∀ a c,addP (pG ps) i k a c=true→a<cs.length∧c<cs.length:=fun a c hp=>by
  rcases z7v.1 hp with h1|⟨rfl,rfl⟩
  ·exact hJ a c h1
  ·exact⟨hk,hi⟩
 have c132:=fn36g he W hh hj hl (d:=d) (ps:=ps) (P:=addP (pG ps) i k) (fun c a _=>hH c a) hb;have c132E:FnE gs Tryz.prog 36 (.acons (vF d cs ps W B') .anil) (·=vB b):=⟨c132.call,fun M ρ w vs _=>c132.run M ρ w vs⟩;refine zK0 ?_;refine z13 (gs:=gs) hz rfl rfl rfl c132E (fun _ _ _ _ h=>p5.2 (p5.1 h)) rfl trivial ?_;refine zK0 ?_;refine q9 rfl (fun hq=>?_) (fun hq=>?_)
 ·have hq:b=true:=hq;rw[hq];refine zK0 ?_;refine zR rfl trivial ?_;rfl
 ·have hq:b=false:=hq;have hN:NB (addP (pG ps) i k) cs.length:=yxj fun hn=>by rw[hb.2 hn] at hq;cases hq
  obtain⟨p0,hL,hM⟩:=z0e (fun a c hp=>(hd a c hp).1) hN hv (o:=[]) (k:=0) (yyu _) (by simp[lvl]);have c126:=fn37g hg he hh hj hl (d:=d) (ps:=ps) (P:=addP (pG ps) i k) (fun c a hp=>by rw[hH] at hp;exact⟨(hd a c hp).2,(hd a c hp).1,hp⟩) hD hE hL hM
  rw[hq];refine zK0 ?_;refine z13 (gs:=gs) hz rfl rfl rfl c126 j2k rfl trivial ?_;refine zK0 ?_;refine zR rfl trivial ?_;rfl
end Go.Proofs.YtcijjbccigbflaaGreatDoor.Ga
namespace Ox.Gl
structure OB(Bs:List (List Nat))(n:Nat):Prop where
 ne:Bs≠[]
 pm:∀ o∈Bs,o.Perm (List.range n)
 nd:Bs.Nodup
def alw(Bs:List (List Nat))(n:Nat)(a c:Nat):Bool:=decide (a<n∧c<n∧∀ o∈Bs,o.idxOf a<o.idxOf c)
variable {Bs:List (List Nat)}{n:Nat}
def q1o:alw Bs n a c=true↔a<n∧c<n∧∀ o∈Bs,o.idxOf a<o.idxOf c:=decide_eq_true_iff
def OB.mem(h:OB Bs n):∃ o,o∈Bs:=List.exists_mem_of_ne_nil _ h.ne
def OB.irr(h:OB Bs n)(a:Nat):alw Bs n a a=false:=by
 cases e:alw Bs n a a
 ·rfl
 ·obtain⟨o,ho⟩:=h.mem;exact absurd ((q1o.1 e).2.2 o ho) (Nat.lt_irrefl _)
def OB.trans{a b c:Nat}(h1:alw Bs n a b=true)(h2:alw Bs n b c=true):alw Bs n a c=true:=by obtain⟨k1,_,k2⟩:=q1o.1 h1;obtain⟨_,k3,k4⟩:=q1o.1 h2;exact q1o.2 ⟨k1,k3,fun o ho=>Nat.lt_trans (k2 o ho) (k4 o ho)⟩
def NB_idx{P:Nat→Nat→Bool}(f:Nat→Nat)(h:∀ a c,P a c=true→f a<f c):NB P n:=by
 intro S h1 h2;obtain⟨c,hS⟩:=h1;generalize hm:f c=m;induction m using Nat.strongRecOn generalizing c with
 |ind m ih=>
  by_cases hx:∃ a,S a∧P a c=true
  ·obtain⟨a,ha,hp⟩:=hx;exact ih (f a) (by rw[← hm];exact h a c hp) a ha rfl
  ·refine⟨c,hS,fun a ha=>?_⟩;cases hp:P a c
   ·rfl
   ·exact absurd ⟨a,ha,hp⟩ hx
def OB.nb(h:OB Bs n):NB (alw Bs n) n:=by obtain⟨o,ho⟩:=h.mem;exact NB_idx (fun c=>o.idxOf c) fun a c hp=>(q1o.1 hp).2.2 o ho
variable{o:List Nat}
def lin_lvl{P:Nat→Nat→Bool}(hi:∀ a,P a a=false)(ho:o.Perm (List.range n))(hw:o.Pairwise fun x y=>P y x=false):o∈lvl P n n:=by
 have hl:o.length=n:=by simpa using ho.length_eq
 have hd:o.Nodup:=ho.nodup_iff.2 List.nodup_range;have key:∀ m,m≤n→o.take m∈lvl P n m:=by
  intro m;induction m with
  |zero=>intro _;simp[lvl]
  |succ m ih=>
   intro hm;have hb:m<o.length:=by omega
   rw[yxy hb];refine z04 (ih (by omega)) (yyt.1 (ho.mem_iff.1 (yy3 hb))) (q43.2 ⟨fun hc=>?_,fun a ha hp=>?_⟩)
   ·rw[List.mem_take_iff_getElem] at hc;obtain⟨j,h1,h2⟩:=hc;have:=(List.getElem_inj hd).1 h2;omega
   ·have he:a∈o:=ho.mem_iff.2 (yyt.2 ha);obtain⟨j,h1,h2⟩:=yxp.1 he;rw[List.mem_take_iff_getElem];refine⟨j,?_,h2⟩;refine Nat.lt_min.2 ⟨?_,h1⟩;refine Nat.lt_of_not_le fun hc=>?_;rcases Nat.lt_or_eq_of_le hc with h3|h3
    ·have:=yx1.1 hw m j hb h1 h3;rw[h2] at this;rw[this] at hp;cases hp
    ·subst h3;rw[h2,hi] at hp;cases hp
 have:=key n (yyn n);rwa[yxn (by omega)] at this
def OB.lin(h:OB Bs n)(ho:o∈Bs):o.Pairwise fun x y=>alw Bs n y x=false:=by
 have ha:o.Nodup:=(h.pm o ho).nodup_iff.2 List.nodup_range;rw[yx1];intro i j hi hj hb;cases e:alw Bs n o[j] o[i]
 ·rfl
 ·have:=(q1o.1 e).2.2 o ho;rw[ha.idxOf_getElem,ha.idxOf_getElem] at this;omega
def OB.lvl(h:OB Bs n){o:List Nat}(ho:o∈Bs):o∈lvl (alw Bs n) n n:=lin_lvl h.irr (h.pm o ho) (h.lin ho)
def z9l{α:Type}[DecidableEq α]:∀ {z a:List α},z.Nodup→(∀ x∈z,x∈a)→z.length≤a.length
 |[],_,_,_=>yyu _
 |x::z,a,h,hs=>by have hx:=hs x yyi;have ih:=z9l (z:=z) (a:=a.erase x) (yxq.1 h).2 fun y hy=>(List.mem_erase_of_ne (fun e:y=x=>(yxq.1 h).1 (by rw[← e];exact hy))).2 (hs y (yyh _ hy));have:=List.length_erase_of_mem hx;have:=List.length_pos_of_mem hx;simp only[List.length_cons];omega
def OB.count(h:OB Bs n):Bs.length≤(Gl.lvl (alw Bs n) n n).length:=z9l h.nd fun o ho=>h.lvl ho
def z3b{P:Nat→Nat→Bool}{n:Nat}(hp:∀ a c,P a c=true→a<n)(hb:∀ a,P a a=false){o:List Nat}(ho:o∈lvl P n n):∀ (m k:Nat),k+m≤n →
  ∀ i,i<m→(∀ j,j<i→(greT P n m (o.take k)).getD j 0=o.getD (k+j) 0)→(greT P n m (o.take k)).getD i 0≤o.getD (k+i) 0
 |0,_,_,i,hi,_=>absurd hi (Nat.not_lt_zero i)
 |m+1,k,hm,i,hi,hj=>by
  obtain⟨ol,on,om⟩:=q0g ho;obtain⟨_,hw⟩:=z44 hp ho;have he:k<o.length:=by omega
  have hg:o.getD k 0=o[k]:=by rw[yyk,yyl he];rfl
  have hk:okc P n (o.take k) o[k]=true:=by
   refine q43.2 ⟨fun hc=>?_,fun a ha hh=>?_⟩
   ·rw[List.mem_take_iff_getElem] at hc;obtain⟨j,h1,h2⟩:=hc;have:=(List.getElem_inj on).1 h2;omega
   ·have hl:a∈o:=(q2d ho).mem_iff.2 (yyt.2 ha);obtain⟨j,h1,h2⟩:=yxp.1 hl;rw[List.mem_take_iff_getElem];refine⟨j,Nat.lt_min.2 ⟨Nat.lt_of_not_le fun hc=>?_,h1⟩,h2⟩;rcases Nat.lt_or_eq_of_le hc with h3|h3
    ·have:=yx1.1 hw k j he h1 h3;rw[h2] at this;rw[this] at hh;cases hh
    ·subst h3;rw[h2,hb] at hh;cases hh
  have hd:∃ c,(List.range n).find? (okc P n (o.take k))=some c∧c≤o[k]:=by
   cases e:(List.range n).find? (okc P n (o.take k)) with
   |none=>have:=List.find?_eq_none.1 e o[k] (yyt.2 (om _ (yy3 he)));exact absurd hk this
   |some c=>refine⟨c,rfl,Nat.le_of_not_lt fun hu=>?_⟩;have:=(List.find?_range_eq_some.1 e).2.2 o[k] hu;rw[hk] at this;cases this
  obtain⟨c,hv,hy⟩:=hd;have hz:greT P n (m+1) (o.take k)=c::greT P n m (o.take k++[c]):=by rw[greT,hv]
  rw[hz] at hj ⊢;cases i with
  |zero=>rw[Nat.add_zero,hg];exact hy
  |succ i=>
   have h0:c=o.getD (k+0) 0:=hj 0 (Nat.succ_pos i);rw[Nat.add_zero,hg] at h0;have ht:o.take k++[c]=o.take (k+1):=by rw[yxy he,h0]
   rw[ht] at hj ⊢;have ih:=z3b hp hb ho m (k+1) (by omega) i (by omega) fun j h=>by have:=hj (j+1) (by omega);rw[show k+1+j=k+(j+1) by omega];exact this
   rw[show k+(i+1)=k+1+i by omega];exact ih
def j2h{P:Nat→Nat→Bool}(hp:∀ a c,P a c=true→a<n)(ha:∀ a,P a a=false)(ho:o∈lvl P n n)(hi:i<n)(hj:∀ j,j<i→(fstO P n).getD j 0=o.getD j 0):(fstO P n).getD i 0≤o.getD i 0:=by
 have:=z3b hp ha ho n 0 (by omega) i hi fun j h=>by rw[yxu];exact hj j h
 rwa[yxu] at this
def OB.must(h:OB Bs n)(hi:i<n)(hk:k<n)(hj:i≠k){P:Nat→Nat→Bool}(hP:∀ a c,P a c=true↔alw Bs n a c=true∨(a=k∧c=i)):¬ NB P n↔alw Bs n i k=true:=by
 constructor
 ·intro hn;refine yxj fun ha=>hn fun S hl he=>?_;by_cases hg:S k
  ·obtain⟨c,⟨hc,hh⟩,hb⟩:=h.nb (fun x=>S x∧(x=k∨alw Bs n x k=true)) ⟨k,hg,.inl rfl⟩ fun c hc=>he c hc.1;refine⟨c,hc,fun a hd=>?_⟩;cases e:P a c
   ·rfl
   ·rcases(hP a c).1 e with h1|⟨h1,h2⟩
    ·have hp:alw Bs n a k=true:=by
      rcases hh with rfl|h2
      ·exact h1
      ·exact OB.trans h1 h2
     have:=hb a ⟨hd,.inr hp⟩;rw[h1] at this;cases this
    ·subst h2;rcases hh with h3|h3
     ·exact absurd h3 hj
     ·exact absurd h3 ha
  ·obtain⟨c,hc,hb⟩:=h.nb S hl he;refine⟨c,hc,fun a hd=>?_⟩;cases e:P a c
   ·rfl
   ·rcases(hP a c).1 e with h1|⟨h1,h2⟩
    ·have:=hb a hd;rw[h1] at this;cases this
    ·exact absurd (h1▸hd) hg
 ·intro ha hN;obtain⟨c,hc,hb⟩:=hN (fun x=>x=i∨x=k) ⟨i,.inl rfl⟩ fun c hc=>by rcases hc with rfl|rfl<;>assumption
  rcases hc with rfl|rfl
  ·have:=hb k (.inr rfl);rw[(hP k c).2 (.inr ⟨rfl,rfl⟩)] at this;cases this
  ·have:=hb i (.inl rfl);rw[(hP i c).2 (.inl ha)] at this;cases this
variable {P:Nat→Nat→Bool}
def rowP(P:Nat→Nat→Bool)(i k:Nat):List (List Int):=((List.range k).filter fun c=>decide (i≠c)&&P i c).map fun c:Nat=>[(i:Int),(c:Int)]
def prsP(P:Nat→Nat→Bool)(n i k:Nat):List (List Int):=(List.range i).flatMap (fun a=>rowP P a n)++rowP P i k
def prsG(P:Nat→Nat→Bool)(n:Nat):List (List Int):=prsP P n n 0
def z2k(i k:Nat):rowP P i (k+1)=if (decide (i≠k)&&P i k)=true then rowP P i k++[[(i:Int),(k:Int)]] else rowP P i k:=by
 unfold rowP;rw[List.range_succ,List.filter_append,yx4];by_cases e:(decide (i≠k)&&P i k)=true
 ·rw[if_pos e,show List.filter (fun c=>decide (i≠c)&&P i c) [k]=[k] from List.filter_cons_of_pos (p:=fun c=>decide (i≠c)&&P i c) e];rfl
 ·rw[if_neg e,show List.filter (fun c=>decide (i≠c)&&P i c) [k]=[] from yxz (p:=fun c=>decide (i≠c)&&P i c) e];simp
def z6h(i k:Nat):(rowP P i k).length≤k:=by unfold rowP;rw[yxh];have:=yx8 (fun c=>decide (i≠c)&&P i c) (List.range k);simpa using this
def prsP_yes(h1:i≠k)(h2:P i k=true):prsP P n i (k+1)=prsP P n i k++[[(i:Int),(k:Int)]]:=by unfold prsP;rw[z2k,if_pos (by simp[h1,h2]),yxg]
def prsP_no(h:¬ (i≠k∧P i k=true)):prsP P n i (k+1)=prsP P n i k:=by unfold prsP;rw[z2k,if_neg (by simpa using h)]
def prsP_row(i:Nat):prsP P n i n=prsP P n (i+1) 0:=by unfold prsP;rw[List.range_succ,List.flatMap_append];simp[rowP]
def j0e:prsP P n 0 0=[]:=by simp[prsP,rowP]
def z0n(P:Nat→Nat→Bool)(n:Nat):∀ i,((List.range i).flatMap (fun a=>rowP P a n)).length≤i*n
 |0=>by simp
 |i+1=>by have:=z0n P n i;have h2:=z6h (P:=P) i n;rw[List.range_succ,List.flatMap_append,yy2,Nat.succ_mul];simp only[List.flatMap_cons,List.flatMap_nil,yxw];omega
def z6k(hn:n≤6)(hi:i≤n)(hk:k≤n):(prsP P n i k).length≤42:=by unfold prsP;have h1:=z0n P n i;have h2:=z6h (P:=P) i k;have h3:i*n≤6*6:=Nat.mul_le_mul (by omega) hn;rw[yy2];omega
def prsG_len(hn:n≤6):(prsG P n).length≤40:=by
 unfold prsG prsP;have h1:=z0n P n n;have h3:n*n≤6*6:=Nat.mul_le_mul hn hn;rw[yy2];have:(rowP P n 0).length=0:=by simp[rowP]
 omega
def z0p{p:List Int}:p∈prsG P n↔∃ i k:Nat,i<n∧k<n∧i≠k∧P i k=true∧p=[(i:Int),(k:Int)]:=by
 unfold prsG prsP;have:rowP P n 0=[]:=by simp[rowP]
 rw[this,yxw,List.mem_flatMap];constructor
 ·rintro⟨i,hi,hp⟩;unfold rowP at hp;obtain⟨k,hk,rfl⟩:=yy0.1 hp;obtain⟨k1,k2⟩:=yy7.1 hk;rw[yyd,yyr] at k2;exact⟨i,k,yyt.1 hi,yyt.1 k1,k2.1,k2.2,rfl⟩
 ·rintro⟨i,k,h1,h2,h3,h4,rfl⟩;refine⟨i,yyt.2 h1,?_⟩;unfold rowP;exact yy0.2 ⟨k,yy7.2 ⟨yyt.2 h2,by simp[h3,h4]⟩,rfl⟩
def z93(i k:Nat):(rowP P i k).Nodup:=by
 unfold rowP;rw[List.nodup_iff_pairwise_ne,List.pairwise_map];refine((List.nodup_iff_pairwise_ne.1 List.nodup_range).filter _).imp fun {a b} h e=>h ?_;have:((a:Int))=(b:Int):=by
  injection e with _ e
  injection e
 omega
def q9o(P:Nat→Nat→Bool)(n:Nat):∀ i,((List.range i).flatMap (fun a=>rowP P a n)).Nodup
 |0=>by simp
 |i+1=>by
  rw[List.range_succ,List.flatMap_append,List.nodup_append];refine⟨q9o P n i,by simpa using z93 i n,fun p hp q hq e=>?_⟩;obtain⟨a,ha,hb⟩:=List.mem_flatMap.1 hp;rw[List.flatMap_cons,List.flatMap_nil,yxw] at hq;unfold rowP at hb hq;obtain⟨x,_,rfl⟩:=yy0.1 hb;obtain⟨y,_,rfl⟩:=yy0.1 hq;have h1:(a:Int)=(i:Int):=by injection e
  have:=yyt.1 ha;omega
def z8d:(prsG P n).Nodup:=by
 unfold prsG prsP;have:rowP P n 0=[]:=by simp[rowP]
 rw[this,yxw];exact q9o P n n
def pG_prs(a c:Nat):pG (prsG P n) a c=(decide (a<n∧c<n∧a≠c)&&P a c):=by
 rw[yy1,z2r,yyd,yyr];constructor
 ·rintro⟨p,hp,e0,e1⟩;obtain⟨i,k,h1,h2,h3,h4,rfl⟩:=z0p.1 hp;have e0:(i:Int).toNat=a:=e0;have e1:(k:Int).toNat=c:=e1;rw[Int.toNat_natCast] at e0 e1;subst e0 e1;exact⟨⟨h1,h2,h3⟩,h4⟩
 ·rintro⟨⟨h1,h2,h3⟩,h4⟩;exact⟨_,z0p.2 ⟨a,c,h1,h2,h3,h4,rfl⟩,by show(a:Int).toNat=a;omega,by show(c:Int).toNat=c;omega⟩
abbrev frG:CoD:=((500,500,()),0,1000,())
def OB.pG{Bs:List (List Nat)}(h:OB Bs n):Gl.pG (prsG (alw Bs n) n)=alw Bs n:=by
 funext a c;rw[pG_prs];cases e:alw Bs n a c
 ·simp
 ·obtain⟨h1,h2,_⟩:=q1o.1 e;have h3:a≠c:=fun k=>by rw[k,h.irr] at e;cases e
  simp[h1,h2,h3]
def OB.vg(h:OB Bs n)(h1:1≤n)(h6:n≤6):VG 1 (List.replicate n frG) (prsG (alw Bs n) n) where
 n1:=by rw[List.length_replicate];exact h1
 n10:=by rw[List.length_replicate];omega
 p40:=prsG_len h6
 d1:=by decide
 d100:=by decide
 co:=fun c hc=>by rw[List.eq_of_mem_replicate hc];show(0≤(500:Int)∧(500:Int)≤500∧(500:Int)≤1000)∧(0:Int)≤0∧(0:Int)≤1000∧(1000:Int)≤1000;decide
 pr:=fun p hp=>by obtain⟨i,k,k1,k2,k3,_,rfl⟩:=z0p.1 hp;rw[List.length_replicate];show(0≤(i:Int)∧(i:Int)<n)∧(0≤(k:Int)∧(k:Int)<n)∧(i:Int)≠k;omega
 nd:=z8d
 nb:=by rw[List.length_replicate,h.pG];exact h.nb
end Ox.Gl
namespace Go.Proofs.YtcijjbccigbflaaGreatDoor
open Go Go.RowKit Ox Ox.Gl
def ob_of(l:List Sh.Sh):OB (Pr.bestsL l) l.length:=⟨Pr.bests_ne l,fun o ho=>Pr.bests_perm ho,Pr.bests_nodup l⟩
def alP(l:List Sh.Sh):Nat→Nat→Bool:=alw (Pr.bestsL l) l.length
def alP_kind{l:List Sh.Sh}{i k:Nat}(hi:i<l.length)(hk:k<l.length)(ha:i≠k):(Pr.kindV l i k==2)=alP l i k:=by rw[yy1,beq_iff_eq,Pr.kind_all hk ha];exact⟨fun h=>q1o.2 ⟨hi,hk,h⟩,fun h=>(q1o.1 h).2.2⟩
def alP_irr(l:List Sh.Sh)(i:Nat):alP l i i=false:=(ob_of l).irr i
def alF(P:Nat→Nat→Bool)(n i k j:Nat):Int:=if (j / 6<i∨(j / 6=i∧j % 6<k))∧j / 6<n∧j % 6<n∧P (j / 6) (j % 6)=true then 1 else 0
def alL(P:Nat→Nat→Bool)(n i k:Nat):List Int:=(List.range 36).map (alF P n i k)
variable {P:Nat→Nat→Bool}{n i k:Nat}
def z5t(P:Nat→Nat→Bool)(n i k:Nat):(alL P n i k).length=36:=by simp[alL]
def alL_zero:alL P n 0 0=List.replicate 36 0:=by unfold alL;rw[List.eq_replicate_iff];refine⟨by simp,fun x hx=>?_⟩;obtain⟨j,_,rfl⟩:=yy0.1 hx;unfold alF;rw[if_neg (by omega)]
def alF_ne(e:¬ (j / 6=i∧j % 6=k)):alF P n i (k+1) j=alF P n i k j:=by
 unfold alF;have:(j / 6<i∨(j / 6=i∧j % 6<k+1))↔(j / 6<i∨(j / 6=i∧j % 6<k)):=by omega
 simp only[this]
def alL_no(h:P i k=false):alL P n i (k+1)=alL P n i k:=by
 unfold alL;refine List.map_congr_left fun j _=>?_;by_cases e:j / 6=i∧j % 6=k
 ·unfold alF;rw[e.1,e.2,h];simp
 ·exact alF_ne e
def alL_at(h:j<(alL P n i k).length):(alL P n i k)[j]=alF P n i k j:=by simp[alL]
def alL_yes(hi:i<n)(hk:k<n)(h6:n≤6)(h:P i k=true):alL P n i (k+1)=(alL P n i k).set (6*i+k) 1:=by
 refine List.ext_getElem (by simp[alL]) fun j h1 h2=>?_;rw[List.getElem_set];rw[alL_at,alL_at];by_cases e:6*i+k=j
 ·rw[if_pos e];have e1:j / 6=i:=by omega
  have e2:j % 6=k:=by omega
  unfold alF;rw[e1,e2,h,if_pos ⟨Or.inr ⟨rfl,by omega⟩,hi,hk,rfl⟩]
 ·rw[if_neg e];exact alF_ne (by omega)
def alL_row(h6:n≤6):alL P n i n=alL P n (i+1) 0:=by
 unfold alL;refine List.map_congr_left fun j _=>?_;unfold alF;by_cases e:j % 6<n
 ·have:(j / 6<i∨(j / 6=i∧j % 6<n))↔(j / 6<i+1∨(j / 6=i+1∧j % 6<0)):=by omega
  simp only[this]
 ·rw[if_neg (fun q=>e q.2.2.1),if_neg (fun q=>e q.2.2.1)]
def alL_get(hi:i<n)(hk:k<n)(h6:n≤6):(alL P n n 0).getD (6*i+k) 0=if P i k=true then 1 else 0:=by
 have hj:6*i+k<36:=by omega
 have e1:(6*i+k) / 6=i:=by omega
 have e2:(6*i+k) % 6=k:=by omega
 unfold alL;rw[yyk,List.getElem?_map,List.getElem?_range hj];show alF P n n 0 (6*i+k)=_;unfold alF;rw[e1,e2];by_cases e:P i k=true
 ·rw[if_pos e,if_pos ⟨Or.inl hi,hi,hk,e⟩]
 ·rw[if_neg e,if_neg fun q=>e q.2.2.2]
def gl_win{ps:List (List Int)}(h:VG 1 (List.replicate n frG) ps):∀ x,x<(List.replicate n frG).length→loR (winL 1 (List.replicate n frG)) x≤0∧((List.replicate n frG).length:Int)-1≤hiR (winL 1 (List.replicate n frG)) x:=fun x hx=>by
 have ha:=h.n10;have hl:(List.replicate n frG).length=n:=List.length_replicate;have hw:=h.win hx;have hg:(List.replicate n frG).getD x coZ=frG:=by rw[yyk,yyl hx,List.getElem_replicate];rfl
 rw[hg,hl] at hw;rw[hl] at ha;unfold loR hiR;rw[hw,hl];unfold winD cMs sHi sLo cLs;dsimp only;refine⟨by decide,?_⟩;show(n:Int)-1≤min ((n:Int)-1) ((500-0) / 1);omega
def che_zero{C:List CoD}{ps:List (List Int)}(h:VG d C ps)(ha:∀ x,x<C.length→loR (winL d C) x≤0∧(C.length:Int)-1≤hiR (winL d C) x){o:List Nat}(ho:isO C.length (o.map Int.ofNat))(hl:o.Pairwise fun x y=>pG ps y x=false):cheG d C ps (o.map Int.ofNat)=0:=by
 have h1:(o.map Int.ofNat).map Int.toNat=o:=by rw[List.map_map];exact(List.map_congr_left fun x _=>Int.toNat_natCast x).trans (List.map_id o)
 unfold cheG;rw[if_pos,if_pos]
 ·unfold rulB;rw[h1];exact decide_eq_true hl
 ·unfold sufB;rw[yyy];intro k hk;rw[yyt] at hk;have hb:=ho.get hk;have hd:=ho.len;have hx:((o.map Int.ofNat).getD k 0).toNat<C.length:=by omega
  refine(h.suit hx (k:=k) (by omega) (by omega)).1 ?_;have:=ha _ hx;omega
end Go.Proofs.YtcijjbccigbflaaGreatDoor
namespace Ox
open Go Go.RowKit
variable {X:Ctx}{M:Mem}{ρ:Env}{a:Act}{w w':World}{QA:Exit→S→Prop}{all l:List Oper}
def j4n{r:List Fr}{L:List (Nat×AV)}{H:List (Nat×HO)}{nx d:Nat}{ty:TypeId}{pos:String}{af:Array Edge}(Kp:List Nat){lab:Nat}{ps:Array Tmp}{assign body:Code}{nO:Nat}{LO L0:List (Nat×AV)}{az:AV}{tys:Array TypeId}
  (hu:opd L fo=some (cs1,.lf (.yld lab))) (ha:opds L args.toList=some (cs2,az)) (hc:allP (cs1++cs2)) (hl:lk H lab=some (.loop .ready none ps assign body nO LO))
  (hb:setPs ps.toList az LO=some L0) (he:ps.toList.all (fun p=>Nat.blt p nO)=true) (hd:ltB d X.n=true)
  (h:∀ M0 up bl,up X.dp X.n=.func (.yield bl) #[] #[]→JK (X.sub M0 nO (some bl) up) [.code assign]
   (asgQ X nO fun s1=>JC (X.sub M0 nO (some bl) up) body (bodyQ X fun b L H nx=>JK X (.ops true all l::r) QA ⟨(d,.val .bool b)::L,H,nx⟩) s1)
   ⟨L0,(nx,.fr X.dp ((X.n,.lf (.yld lab))::svL L Kp))::H,nx+1⟩) :
  JK X (.ops true all (⟨some d,.call {callee:=.value fo,args:=args,argTypes:=tys},ty,pos,af,none⟩::l)::r) QA ⟨L,H,nx⟩:=
 JL.yield (s:=⟨L,H,nx⟩) Kp rfl rfl hu ha hc hl hb he (w7 hd) h
end Ox
namespace Ox.Gl
open Go Go.RowKit Ox
variable {kt:Ty}[DecidableEq kt.den]
abbrev shE(kt:Ty):=Ent kt (.int .i64)
def q38{α β:Type}{f:α→List β}{m:Nat}(hf:∀ a,(f a).length≤m):∀ l:List α,(l.flatMap f).length≤m*l.length
 |[]=>by simp
 |a::l=>by have:=q38 hf l;have:=hf a;simp only[List.flatMap_cons,yy2,List.length_cons,Nat.mul_add];omega
structure CM(Q:kt.den→Prop)(es:List (shE kt))(clk:Nat)(c:kt.den→Nat):Prop where
 wf:MWF es clk
 nn:∀ e∈es,0≤(show Int from e.2.1)
 ok:∀ e∈es,Q e.1
 eq:∀ p:kt.den,(show Int from mGet es p (0:Int))=(c p:Int)
def CM.congr{Q:kt.den→Prop}{es:List (shE kt)}{c c':kt.den→Nat}(h:CM Q es clk c)(hc:∀ p,c p=c' p):CM Q es clk c':=⟨h.wf,h.nn,h.ok,fun p=>by rw[← hc p];exact h.eq p⟩
def CM.nil(Q:kt.den→Prop)(clk:Nat):CM Q [] clk fun _=>0:=⟨.nil,(fun _ h=>by cases h),(fun _ h=>by cases h),fun _=>rfl⟩
def CM.add{Q:kt.den→Prop}{es:List (shE kt)}{c:kt.den→Nat}(h:CM Q es clk c)(q:kt.den)(n:Nat)(hq:Q q)(hv:v=(c q:Int)+n) :
  CM Q (mPut es clk q v) (mClk es clk q) fun p=>if p=q then c p+n else c p:=by
 refine⟨h.wf.put,fun e he=>?_,fun e he=>?_,fun p=>?_⟩
 ·rcases(q1g h.wf).1 he with⟨h1,_⟩|⟨_,h1,_⟩
  ·exact h.nn e h1
  ·show(0:Int)≤e.2.1;rw[h1];show(0:Int)≤v;omega
 ·rcases(q1g h.wf).1 he with⟨h1,_⟩|⟨h1,_,_⟩
  ·exact h.ok e h1
  ·show Q e.1;rw[h1];exact hq
 ·show(mGet (mPut es clk q v) p (0:Int):Int)=_;rw[z6v h.wf (inferInstance)];by_cases e:p=q
  ·rw[if_pos e,if_pos e,e];exact hv
  ·rw[if_neg e,if_neg e];exact h.eq p
def bag(es:List (shE kt)):List kt.den:=es.flatMap fun e=>List.replicate (show Int from e.2.1).toNat (e.1:kt.den)
def z1s(es:List (shE kt))(e:(shE kt)):bag (es++[e])=bag es++List.replicate (show Int from e.2.1).toNat (e.1:kt.den):=by simp[bag]
def z3n(n:Nat)(a p:kt.den):(List.replicate n a).count p=if p=a then n else 0:=by
 rw[List.count_replicate];by_cases e:p=a
 ·subst e;simp
 ·rw[if_neg e,if_neg];simpa using fun h=>e h.symm
def q5r(n:Nat)(a:kt.den)(f:kt.den→List kt.den)(q:kt.den):((List.replicate n a).flatMap f).count q=n*(f a).count q:=by
 induction n with
 |zero=>simp
 |succ n ih=>rw[List.replicate_succ,List.flatMap_cons,List.count_append,ih,Nat.succ_mul,Nat.add_comm]
structure Far(es done:List (shE kt)):Prop where
 rest:∃ rest,(done++rest).Perm es
def Far.nil(es:List (shE kt)):Far es []:=⟨es,.refl _⟩
def Far.sub{es done:List (shE kt)}(h:Far es done):∀ e∈done,e∈es:=by obtain⟨rest,h⟩:=h.rest;exact fun e he=>h.mem_iff.1 (yxr _ he)
def Far.snoc{es done:List (shE kt)}(hw:MWF es clk)(h:Far es done){e:(shE kt)}(he:e∈es)(hs:e.2.2∉done.map (·.2.2)):Far es (done++[e]):=by obtain⟨rest,h⟩:=h.rest;have:e∈rest:=(yy4.1 (h.mem_iff.2 he)).resolve_left fun hd=>hs (List.mem_map_of_mem hd);obtain⟨s,t,rfl⟩:=List.append_of_mem this;refine⟨s++t,.trans ?_ h⟩;rw[yxg];refine List.Perm.append_left _ ?_;rw[List.singleton_append];exact List.perm_middle.symm
def Far.all{es done:List (shE kt)}(hw:MWF es clk)(h:Far es done)(ha:∀ e∈es,e.2.2∈done.map (·.2.2)):done.Perm es:=by
 obtain⟨rest,h⟩:=h.rest;cases rest with
 |nil=>simpa using h
 |cons x r=>have hx:x∈es:=h.mem_iff.1 (List.mem_append_right _ yyi);obtain⟨y,hy,hb⟩:=yy0.1 (ha x hx);have hn:((done++x::r).map (·.2.2)).Nodup:=(h.map _).nodup_iff.2 hw.nb;rw[yx4,List.nodup_append] at hn;exact absurd hb (hn.2.2 _ (List.mem_map_of_mem hy) _ (by simp))
def Far.len{es done:List (shE kt)}(h:Far es done):(bag done).length≤(bag es).length:=by obtain⟨rest,h⟩:=h.rest;have:=(j2n (f:=fun e:(shE kt)=>List.replicate (show Int from e.2.1).toNat (e.1:kt.den)) h).length_eq;rw[List.flatMap_append,yy2] at this;unfold bag;omega
def q8s{Q:kt.den→Prop}{es es3:List (shE kt)}{c:kt.den→Nat}{f:kt.den→Bool}(h:CM Q es clk c)(hs:es3.Sublist es)(hi:∀ e∈es,e∈es3↔f e.1=true):CM Q es3 clk fun p=>if f p=true then c p else 0:=by
 have hw:=h.wf.sub hs;refine⟨hw,fun e he=>h.nn e (hs.subset he),fun e he=>h.ok e (hs.subset he),fun p=>?_⟩;have h1:=h.eq p;cases hx:mIdx es p with
 |none=>
  rw[f7] at hx;have e1:mGet es p (0:Int)=(0:Int):=n9 hx;have e2:mGet es3 p (0:Int)=(0:Int):=n9 fun e he=>hx e (hs.subset he);show mGet es3 p (0:Int)=_;rw[e2];have h0:(c p:Int)=0:=by rw[← h1];exact e1
  have hb:c p=0:=by omega
  rw[hb];split<;>rfl
 |some k=>
  obtain⟨hl,hk⟩:=o6 hx;have he:=yy3 hl;generalize es[k]=e at hk he;subst hk;show mGet es3 e.1 (0:Int)=_;by_cases hf:f e.1=true
  ·rw[if_pos hf,s6 hw ((hi e he).2 hf),← h1];exact(s6 h.wf he).symm
  ·rw[if_neg hf];refine n9 fun a ha hk=>hf ?_;have:=h.wf.eq (hs.subset ha) he hk;subst this;exact(hi a he).1 ha
def z5q[BEq α][LawfulBEq α](p a:α)[Decidable (p=a)]:(a==p)=decide (p=a):=by rw[yy1,beq_iff_eq,decide_eq_true_iff];exact eq_comm
def cnt1[BEq α][LawfulBEq α](c n:Nat)(p a:α)[Decidable (p=a)]:(if p=a then c+n else c)=c+n*[a].count p:=by
 rw[List.count_singleton,z5q];by_cases h:p=a
 ·rw[if_pos h,decide_eq_true h,if_pos rfl];omega
 ·rw[if_neg h,decide_eq_false h,if_neg (by decide)];omega
section
variable {kt:Ty}[DecidableEq kt.den]
def CM.del{Q:kt.den→Prop}{es:List (shE kt)}{c:kt.den→Nat}(h:CM Q es clk c)(x:kt.den):CM Q (mDel es x) clk fun p=>if p=x then 0 else c p:=by
 have:=q8s (f:=fun p=>decide (p≠x)) h q7d fun e he=>by rw[z03 h.wf,decide_eq_true_iff];exact⟨fun k=>k.2,fun k=>⟨he,k⟩⟩
 refine this.congr fun p=>?_;by_cases e:p=x<;>simp[e]
def CM.key{Q:kt.den→Prop}{es:List (shE kt)}{c:kt.den→Nat}(h:CM Q es clk c){p:kt.den}(hp:c p≠0):∃ e∈es,e.1=p:=by
 refine yxj fun hc=>hp ?_;have h1:=h.eq p;have h2:mGet es p (0:Int)=(0:Int):=n9 fun e he k=>hc ⟨e,he,k⟩;have h3:(c p:Int)=0:=by rw[← h1];exact h2
 omega
end
section
variable {α:Type}[DecidableEq α]
def mixC(L:List α)(f:α→List α)(done:List α)(p:α):Nat:=(L.filter fun y=>decide (y∉done)).count p+((L.filter fun y=>decide (y∈done)).flatMap f).count p
def mix_nil(L:List α)(f:α→List α)(p:α):mixC L f [] p=L.count p:=by unfold mixC;rw[List.filter_eq_self.2 (by simp),List.filter_eq_nil_iff.2 (by simp)];simp
def mix_all{L:List α}{f:α→List α}{done:List α}(h:∀ y∈L,y∈done)(p:α):mixC L f done p=(L.flatMap f).count p:=by unfold mixC;rw[List.filter_eq_nil_iff.2 (fun y hy=>by simpa using h y hy),List.filter_eq_self.2 fun y hy=>decide_eq_true (h y hy)];simp
def z3f{L:List α}{f:α→List α}{x:α}(h:∀ y∈L,x∉f y):(L.flatMap f).count x=0:=List.count_eq_zero.2 fun hm=>by obtain⟨y,hy,hx⟩:=List.mem_flatMap.1 hm;exact h y hy hx
def mix_val{L:List α}{f:α→List α}{done:List α}{x:α}(hx:x∉done)(hl:∀ y∈L,x∉f y):mixC L f done x=L.count x:=by unfold mixC;rw[z3f fun y hy=>hl y (yy7.1 hy).1,List.count_filter (by simpa using hx)];rfl
def q9w(f:α→List α){done:List α}{x:α}(hx:x∉done)(p:α):∀ L:List α,
  ((L.filter fun y=>decide (y∈done++[x])).flatMap f).count p=((L.filter fun y=>decide (y∈done)).flatMap f).count p+L.count x*(f x).count p
 |[]=>by simp
 |y::L=>by
  have ih:=q9w f hx p L;by_cases h:y=x
  ·subst h;rw[List.filter_cons_of_pos (by simp),yxz (by simpa using hx),List.flatMap_cons,List.count_append,ih,List.count_cons_self,Nat.succ_mul];omega
  ·have hc:(y::L).count x=L.count x:=List.count_cons_of_ne h;by_cases h2:y∈done
   ·rw[List.filter_cons_of_pos (by simp[h2]),List.filter_cons_of_pos (by simpa using h2),List.flatMap_cons,List.flatMap_cons,List.count_append,List.count_append,ih,hc];omega
   ·rw[yxz (by simp[h,h2]),yxz (by simpa using h2),ih,hc]
def mix_step{L:List α}{f:α→List α}{done:List α}{x:α}(hx:x∉done)(hl:∀ y∈L,x∉f y)(p:α):mixC L f (done++[x]) p=if p=x then 0 else mixC L f done p+L.count x*(f x).count p:=by
 by_cases h:p=x
 ·subst h;rw[if_pos rfl];unfold mixC;rw[z3f fun y hy=>hl y (yy7.1 hy).1,List.count_eq_zero.2 fun hm=>by have:=(yy7.1 hm).2;simp at this]
 ·rw[if_neg h];unfold mixC;rw[q9w f hx p L];have:(L.filter fun y=>decide (y∉done++[x])).count p=(L.filter fun y=>decide (y∉done)).count p:=by
   by_cases h2:p∈done
   ·rw[List.count_eq_zero.2 fun hm=>?_,List.count_eq_zero.2 fun hm=>?_]
    ·have:=(yy7.1 hm).2;simp[h2] at this
    ·have:=(yy7.1 hm).2;simp[h2] at this
   ·rw[List.count_filter (by simp[h,h2]),List.count_filter (by simpa using h2)]
  rw[this];omega
end
def stp(P:Nat→Nat→Bool)(n x m:Nat):List Nat:=((List.range m).filter (okx P n x)).map fun c=>x ||| 2 ^ c
def z5b(P:Nat→Nat→Bool)(n m:Nat):kb P n (m+1)=(kb P n m).flatMap fun x=>stp P n x n:=rfl
def stp_succ(P:Nat→Nat→Bool)(n x m:Nat):stp P n x (m+1)=if okx P n x m=true then stp P n x m++[x ||| 2 ^ m] else stp P n x m:=by
 unfold stp;rw[List.range_succ,List.filter_append,yx4];split
 ·rename_i h;rw[List.filter_cons_of_pos h];rfl
 ·rename_i h;rw[yxz h];simp
variable{x:Nat}
def or_ne(h:x.testBit m=false):x ||| 2 ^ m≠x:=fun e=>by
 have:(x ||| 2 ^ m).testBit m=x.testBit m:=by rw[e]
 rw[Nat.testBit_or,Nat.testBit_two_pow,h] at this;simp at this
def stp_not(P:Nat→Nat→Bool)(n x m:Nat):x∉stp P n x m:=fun h=>by obtain⟨c,hc,e⟩:=yy0.1 h;have:=(yy7.1 hc).2;unfold okx at this;rw[yyd,yyz] at this;exact or_ne this.1 e
def z9m{P:Nat→Nat→Bool}{n k x y:Nat}(hx:x∈kb P n k)(hy:y∈kb P n k):x∉stp P n y n:=fun h=>by
 have:x∈kb P n (k+1):=by rw[z5b,List.mem_flatMap];exact⟨y,hy,h⟩
 have:=kb_level hx this;omega
section
variable {kt:Ty}[DecidableEq kt.den]
def CM.imp{Q Q':kt.den→Prop}{es:List (shE kt)}{c:kt.den→Nat}(h:CM Q es clk c)(hq:∀ p,Q p→Q' p):CM Q' es clk c:=⟨h.wf,h.nn,fun e he=>hq _ (h.ok e he),h.eq⟩
def CM.delQ{Q:kt.den→Prop}{es:List (shE kt)}{c:kt.den→Nat}(h:CM Q es clk c)(x:kt.den):CM (fun p=>Q p∧p≠x) (mDel es x) clk fun p=>if p=x then 0 else c p:=
 let k:=CM.del h x
 ⟨k.wf,k.nn,fun e he=>⟨k.ok e he,((z03 h.wf).1 he).2⟩,k.eq⟩
end
abbrev u64T:Ty:=.int .u64
variable {P:Nat→Nat→Bool}{n:Nat}
def KL(P:Nat→Nat→Bool)(n k:Nat):List Int:=(kb P n k).map Int.ofNat
def fK(P:Nat→Nat→Bool)(n:Nat)(p:Int)(m:Nat):List Int:=(stp P n p.toNat m).map Int.ofNat
def KL_succ(k:Nat):KL P n (k+1)=(KL P n k).flatMap fun p=>fK P n p n:=by unfold KL fK;rw[z5b,List.map_flatMap,List.flatMap_map];rfl
variable{y p:Int}
def z35:p∈KL P n k↔∃ x∈kb P n k,p=(x:Int):=by unfold KL;rw[yy0];exact⟨fun⟨x,h1,h2⟩=>⟨x,h1,h2.symm⟩,fun⟨x,h1,h2⟩=>⟨x,h1,h2.symm⟩⟩
def j2u{p q:Int}:q∈fK P n p m↔∃ y∈stp P n p.toNat m,q=(y:Int):=by unfold fK;rw[yy0];exact⟨fun⟨x,h1,h2⟩=>⟨x,h1,h2.symm⟩,fun⟨x,h1,h2⟩=>⟨x,h1,h2.symm⟩⟩
def z7w{x y:Int}(hx:x∈KL P n k)(hy:y∈KL P n k):x∉fK P n y n:=fun h=>by
 obtain⟨a,ha,rfl⟩:=z35.1 hx;obtain⟨b,hb,rfl⟩:=z35.1 hy;obtain⟨z,hz,e⟩:=j2u.1 h;rw[Int.toNat_natCast] at hz;have:a=z:=by omega
 subst this;exact z9m ha hb hz
def KL_next{x y:Int}(hx:x∈KL P n k)(hm:m≤n)(hy:y∈fK P n x m):y∈KL P n (k+1):=by obtain⟨a,ha,rfl⟩:=z35.1 hx;obtain⟨z,hz,rfl⟩:=j2u.1 hy;rw[Int.toNat_natCast] at hz;refine z35.2 ⟨z,?_,rfl⟩;rw[z5b,List.mem_flatMap];refine⟨a,ha,?_⟩;obtain⟨c,hc,e⟩:=yy0.1 hz;obtain⟨h1,h2⟩:=yy7.1 hc;exact yy0.2 ⟨c,yy7.2 ⟨yyt.2 (yxf (yyt.1 h1) hm),h2⟩,e⟩
def KL_bd{x:Int}(hx:x∈KL P n k):∃ a:Nat,x=(a:Int)∧a<2 ^ n:=by obtain⟨a,ha,rfl⟩:=z35.1 hx;exact⟨a,rfl,(z5c ha).1⟩
def fK_self:(x:Int)∉fK P n (x:Int) m:=fun h=>by
 obtain⟨z,hz,e⟩:=j2u.1 h;rw[Int.toNat_natCast] at hz;have:x=z:=by omega
 subst this;exact stp_not P n x m hz
def fK_succ(x m:Nat):fK P n (x:Int) (m+1)=if okx P n x m=true then fK P n (x:Int) m++[((x ||| 2 ^ m:Nat):Int)] else fK P n (x:Int) m:=by
 unfold fK;rw[Int.toNat_natCast,stp_succ];split
 ·rw[yx4];rfl
 ·rfl
def fK_len(p:Int)(m:Nat):(fK P n p m).length≤m:=by unfold fK stp;rw[yxh,yxh];exact Nat.le_trans (yx8 ..) (by simp)
def KL_len(k:Nat):(KL P n k).length=(lvl P n k).length:=by unfold KL;rw[yxh,z60,yxh]
def q9y(m:Nat):∀ l:List Nat,(l.map Int.ofNat).count (m:Int)=l.count m
 |[]=>rfl
 |a::l=>by
  rw[yy6,List.count_cons,List.count_cons,q9y m l];by_cases h:a=m
  ·subst h;simp
  ·have h2:¬ Int.ofNat a=(m:Int):=fun e=>h (by have:=Int.ofNat.inj e;exact this);rw[if_neg (by simpa using h2),if_neg (by simpa using h)]
def KL_all:(KL P n n).count ((2 ^ n-1:Nat):Int)=(lvl P n n).length:=by rw[← kb_all];unfold KL;exact q9y _ _
def mix_le(L:List Int)(f:Int→List Int)(m:Nat)(hf:∀ a,(f a).length≤m)(done:List Int)(p:Int):mixC L f done p≤L.length+m*L.length:=by unfold mixC;have h1:=List.count_le_length (a:=p) (l:=L.filter fun y=>decide (y∉done));have h2:=yx8 (fun y=>decide (y∉done)) L;have h3:=List.count_le_length (a:=p) (l:=(L.filter fun y=>decide (y∈done)).flatMap f);have h4:=q38 hf (L.filter fun y=>decide (y∈done));have h5:=Nat.mul_le_mul_left m (yx8 (fun y=>decide (y∈done)) L);omega
def ten_pow(hn:n≤10)(hk:k≤9):n ^ k≤1000000000:=by
 calc n ^ k≤10 ^ k:=Nat.pow_le_pow_left hn k
  _≤10 ^ 9:=yx9 (by decide) hk
  _=1000000000:=rfl
def cm_zero(P:Nat→Nat→Bool)(n:Nat):CM (kt:=u64T) (fun p=>p∈KL P n 0) (mPut [] 0 (0:Int) (1:Int)) 1 fun p=>(KL P n 0).count p:=by
 have h0:KL P n 0=[0]:=rfl;rw[h0];refine CM.congr (CM.add (kt:=u64T) (CM.nil (fun p:Int=>p∈([0]:List Int)) 0) (0:Int) 1 (by simp) (v:=1) (by simp)) fun p=>?_;show(if p=(0:Int) then 0+1 else 0)=([0]:List Int).count p;rw[List.count_cons,List.count_nil];by_cases h:p=0
 ·rw[if_pos h,h];rfl
 ·rw[if_neg h,if_neg (by simpa using fun e=>h e.symm)]
def Far.keys{kt:Ty}[DecidableEq kt.den]{es done:List (shE kt)}(hw:MWF es clk)(h:Far es done):(done.map fun e=>e.1).Nodup:=by obtain⟨rest,h⟩:=h.rest;have h1:=(h.map fun e:shE kt=>e.1).nodup_iff.2 hw.nk;rw[yx4] at h1;exact(List.nodup_append.1 h1).1
def keys_len(hn:n≤10){z:List Int}(hz:z.Nodup)(h:∀ x∈z,x∈KL P n k):z.length≤1024:=by
 have:=z2u (a:=(List.range 1024).map Int.ofNat) hz fun x hx=>by obtain⟨a,rfl,ha⟩:=KL_bd (h x hx);exact yy0.2 ⟨a,yyt.2 (yxf ha (yx9 (by decide) hn)),rfl⟩
 simpa using this
end Ox.Gl
namespace Go.Proofs.YtcijjbccigbflaaGreatDoor.Ga
open Go Go.RowKit Ox Ox.Gl Ox.Rn
attribute [local irreducible] JC JL JK JW
def z2z:mapB Tryz.prog 116=true:=by decide +kernel
def fun75:funB Tryz.prog 75=true:=by decide +kernel
set_option maxRecDepth 20000 in
def mpU:MapT Tryz.prog u64T (.int .i64) 116 77 2:=.of (by rfl) (by decide +kernel)
abbrev EnU:=Ent u64T (.int .i64)
abbrev p44(F:AV):AV:=.pfn (.fn 31 (.acons F .anil) .anil)
abbrev LO44(F:AV):List (Nat×AV):=[(1,.lf (.optr 0 [])),(3,.pfn (.lf (.mp 1))),(4,p44 F)]
abbrev HC(st:LoopState)(c e:Code)(F:AV)(es:List EnU)(clk:Nat):List (Nat×HO):=[(3,.fr 0 [(83,.lf (.yld 2)),(1,.lf (.optr 0 [])),(3,.pfn (.lf (.mp 1))),(4,p44 F)]),(2,.loop st none #[17] c e 83 (LO44 F)),(0,.cell (.ptr sfT) F),(1,.map u64T (.int .i64) es clk)]
abbrev HD(c e:Code)(F:AV)(n k:Nat)(es:List EnU)(clk:Nat):List (Nat×HO):=(4,.fr 1 [(18,.lf (.yld 2)),(0,.lf (.yld 2)),(9,vI (n:Int)),(10,vI (k:Int))])::HC .busy c e F es clk
abbrev RB(F:AV)(k:Nat):List (Nat×AV):=[(1,.lf (.optr 0 [])),(3,.pfn (.lf (.mp 1))),(4,p44 F),(5,vI (k:Int))]
section
variable {E:World}{Ma Mb:Mem}{na:Nat}{rda:Option Nat}{upa upb:Nat→Nat→Value}{bl:Nat}{a1 b1:Code}{QA:Exit→S→Prop}
set_option maxRecDepth 20000 in
set_option maxHeartbeats 4000000 in
def cnt_body{cs:List CoD}{ps:List (List Int)}(h:VG d cs ps){W:List RgD}(hW:W.length=10)(h7:∀ x,x<cs.length→loR W x≤0∧(cs.length:Int)-1≤hiR W x)
  (h0:∀ c,B.getD c 0=(bfN ps c:Int)) (h9:B.length=10) {k:Nat} (hk:k<cs.length) {es:List EnU} {clk:Nat} (hw:CM (kt:=u64T) (fun p=>p∈KL (pG ps) cs.length k) es clk fun p=>(KL (pG ps) cs.length k).count p)
  (hK:∀ es' clk',CM (kt:=u64T) (fun p=>p∈KL (pG ps) cs.length (k+1)) es' clk' (fun p=>(KL (pG ps) cs.length (k+1)).count p)→QA .normal ⟨RB (vF d cs ps W B) k,HD a1 b1 (vF d cs ps W B) cs.length k es' clk',10⟩) :
  JK (Ctx.sub ⟨Tryz.prog,tys,ets,mts,E,Ma,na,rda,upa,1⟩ Mb 83 (some bl) upb) [.code (rgsB 0 Tryz.f27.body)] QA ⟨RB (vF d cs ps W B) k,HD a1 b1 (vF d cs ps W B) cs.length k es clk,5⟩:=by
 refine q1d (c':=_) rfl ?_;have hA:=h.n10;have h3:=h.bf_1024;have Ha:∀ a c,pG ps a c=true→a<cs.length:=fun a c hp=>(h.lt hp).1;have hF:∀ x c,c<cs.length→okx (pG ps) cs.length x c=(!(x.testBit c)&&(bfN ps c ^^^ (bfN ps c &&& x)==0)):=fun x c hc=>j0v (bf:=bfN ps) (fun c a _=>q3q ps c a) Ha hc;have hG:(KL (pG ps) cs.length k).length≤1000000000:=by rw[KL_len];exact Nat.le_trans (z21 k) (ten_pow hA (by omega))
 generalize bfN ps=bf at h0 h3 hF
 (repeat (first|refine zs rfl ?_|refine zmr mpU rfl rfl rfl ?_|refine zdm z2z rfl rfl ?_))
 refine JK.ghost 6 77 u64T rfl ?_;refine JK.loop (σ:=List EnU×Nat) (fun q=>⟨RB (vF d cs ps W B) k++[(6,.lf (.osl 6)),(19,.lf (.itr 5))],(6,.sl 77 u64T (q.1.map fun e=>e.1))::(5,.iter 1 clk (q.1.map (·.2.2)) q.2)::HD a1 b1 (vF d cs ps W B) cs.length k es clk,7⟩)
  (fun q=>Far es q.1∧clk≤q.2) (fun q=>mLeft es (q.1.map (·.2.2))) ([],clk) ⟨Far.nil es,yyn _⟩ (by exact zJ) fun⟨done,last⟩ ⟨ha,hh⟩=>?_
 dsimp only at ha hh ⊢;have hM:∀ x∈done.map (fun e=>e.1),x∈KL (pG ps) cs.length k:=fun x hx=>by obtain⟨e,he,rfl⟩:=yy0.1 hx;exact hw.ok e (ha.sub e he)
 have hQ:=ha.keys hw.wf;have Hb:(done.map fun e=>e.1).length≤1024:=keys_len hA hQ hM;refine zK0 ?_;refine z7x rfl rfl rfl hw.wf.lt hh rfl (fun hall=>?_) (fun e he h4=>?_)
 ·have hp:=ha.all hw.wf hall;have hB:∀ y∈KL (pG ps) cs.length k,y∈done.map fun e=>e.1:=fun y hy=>by obtain⟨e,he,e1⟩:=hw.key (p:=y) (by have:=List.count_pos_iff.2 hy;omega);exact yy0.2 ⟨e,hp.mem_iff.2 he,e1⟩
  clear hall hp ha hh;generalize (done.map fun e=>e.1)=old at hM hQ Hb hB ⊢;generalize hN:KL (pG ps) cs.length k=LK at hw hM hB hG;refine zK0 ?_;refine q9 rfl (fun h=>by cases h) (fun _=>?_);refine zK0 ?_;refine JK.loop (σ:=Nat×List EnU×Nat) (fun q=>⟨RB (vF d cs ps W B) k++[(28,.lf (.osl 6)),(29,vI old.length),(30,vI (q.1:Int))],(6,.sl 77 u64T old)::HD a1 b1 (vF d cs ps W B) cs.length k q.2.1 q.2.2,7⟩)
   (fun q=>q.1≤old.length∧CM (kt:=u64T) (fun p=>(p∈LK∧p∉old.take q.1)∨p∈KL (pG ps) cs.length (k+1)) q.2.1 q.2.2 (mixC LK (fun p=>fK (pG ps) cs.length p cs.length) (old.take q.1))) (fun q=>old.length-q.1) (0,es,clk)
   ⟨yyu _,(hw.imp fun p hp=>.inl ⟨hp,by simp⟩).congr fun p=>by rw[List.take_zero,mix_nil]⟩ (by exact zJ) fun⟨j,es1,clk1⟩ ⟨hj,hl⟩=>?_
  dsimp only at hj hl ⊢;refine zK0 ?_;refine q9 rfl (fun hc=>?_) (fun hc=>?_)
  ·replace hc:=zC hc;have hD:j<old.length:=by omega
   have hE:=hM (old.getD j 0) (by rw[j7 old hD];exact yy3 hD);have hR:old.take (j+1)=old.take j++[old.getD j 0]:=by rw[yxy hD,j7 old hD]
   have hT:old.getD j 0∉old.take j:=fun hm=>by rw[j7 old hD,List.mem_take_iff_getElem] at hm;obtain⟨i,hi,e⟩:=hm;exact(yx1.1 (List.nodup_iff_pairwise_ne.1 hQ) i j (by omega) hD (by omega)) e
   have hz:old.getD (Int.toNat (j:Int)) (Ty.int .u64).dflt=old.getD j 0:=rfl;rw[← hN] at hE;obtain⟨x,hx,Hc⟩:=KL_bd hE;rw[hx] at hz hR hT hE;refine zK0 ?_;rw[hz];have hH:mixC LK (fun p=>fK (pG ps) cs.length p cs.length) (old.take j) (x:Int)=LK.count (x:Int):=mix_val hT fun y hy=>z7w hE (by rw[hN];exact hy);have hu:=fun p=>mix_step (L:=LK) (f:=fun p=>fK (pG ps) cs.length p cs.length) (done:=old.take j) (x:=(x:Int)) hT (fun y hy=>z7w hE (by rw[hN];exact hy)) p;have hv:=fun p=>mix_le LK (fun p=>fK (pG ps) cs.length p cs.length) 10 (fun a=>Nat.le_trans (fK_len a _) hA) (old.take j) p;have Ho:=List.count_le_length (a:=(x:Int)) (l:=LK);rw[← hR] at hu;generalize mixC LK (fun p=>fK (pG ps) cs.length p cs.length) (old.take j)=mc at hl hH hu hv;refine JK.loop (σ:=Nat×List EnU×Nat) (fun q=>⟨RB (vF d cs ps W B) k++[(9,vS64 x),(28,.lf (.osl 6)),(29,vI old.length),(30,vI (j:Int)),(39,vI cs.length),(40,vI (q.1:Int))],(6,.sl 77 u64T old)::HD a1 b1 (vF d cs ps W B) cs.length k q.2.1 q.2.2,7⟩)
    (fun q=>q.1≤cs.length∧CM (kt:=u64T) (fun p=>(p∈LK∧p∉old.take j)∨p∈KL (pG ps) cs.length (k+1)) q.2.1 q.2.2 (fun p=>mc p+LK.count (x:Int)*(fK (pG ps) cs.length (x:Int) q.1).count p)) (fun q=>cs.length-q.1) (0,es1,clk1)
    ⟨yyu _,hl.congr fun p=>by simp[fK,stp]⟩ (by exact zJ) fun⟨c,es2,clk2⟩ ⟨Hd,hg⟩=>?_
   dsimp only at Hd hg ⊢;refine zK0 ?_;refine q9 rfl (fun hd=>?_) (fun hd=>?_)
   ·replace hd:=zC hd;have h5:c<cs.length:=by omega
    obtain⟨b,hb⟩:∃ b,b=true:=⟨true,rfl⟩;have c29:=fn31 (d:=d) (cs:=cs) (ps:=ps) W B (c:=c) (k:Int) (by omega) hW;rw[show decide (loR W c≤(k:Int)∧(k:Int)≤hiR W c)=b from by have:=h7 c h5;rw[hb,yyr];omega] at c29
    have Hp:=q08 (n:=c) (by omega);have h6:B.getD (Int.toNat (c:Int)) (Ty.int .u64).dflt=(bf c:Int):=h0 c;have Hq:=h3 c;have Hr:0≤B.getD (Int.toNat (c:Int)) (Ty.int .u64).dflt∧B.getD (Int.toNat (c:Int)) (Ty.int .u64).dflt<1024:=by rw[h6];omega
    have He:x<1024:=yxf Hc (z2p hA);have hV:(bif (bif (((((x:Nat):Int).toNat &&& ((1:Int)*2 ^ (Int.toNat (c:Int))).toNat:Nat):Int)==0) then((((B.getD (Int.toNat (c:Int)) (Ty.int .u64).dflt).toNat ^^^ ((B.getD (Int.toNat (c:Int)) (Ty.int .u64).dflt).toNat &&& ((x:Nat):Int).toNat):Nat):Int)==0) else false) then b else false)=okx (pG ps) cs.length x c:=by
     rw[hF x c h5,h6,hb,Int.toNat_natCast,Int.toNat_natCast,Int.toNat_natCast,q3i];by_cases z:x.testBit c=true
     ·have z1:(((x &&& 2 ^ c:Nat):Int)==0)=false:=by have:=q6l.2 z;simp;exact_mod_cast this
      rw[z1,z];simp
     ·have z0:x &&& 2 ^ c=0:=by refine yxj fun h=>z (q6l.1 h)
      rw[z0];simp at z;rw[z];by_cases y:bf c ^^^ (bf c &&& x)=0
      ·simp[y]
      ·have:(((bf c ^^^ (bf c &&& x):Nat):Int)==0)=false:=by simp;exact_mod_cast y
       rw[this];simp[y]
    have hJ:=fK_succ (P:=pG ps) (n:=cs.length) x c
    (repeat (first|refine zs rfl ?_|refine zg rfl rfl rfl ?_|refine zdg fun75 rfl rfl rfl ?_|refine zk rfl rfl (fun _=>c29) rfl rfl ?_))
    refine q9 rfl (fun he=>?_) (fun he=>?_)
    ·have hP:=hV.symm.trans he;rw[if_pos hP] at hJ;have hU:((((x:Nat):Int).toNat ||| ((1:Int)*2 ^ (Int.toNat (c:Int))).toNat:Nat):Int)=((x ||| 2 ^ c:Nat):Int):=by rw[Int.toNat_natCast,Int.toNat_natCast,q3i]
     have hq:((x ||| 2 ^ c:Nat):Int)∈KL (pG ps) cs.length (k+1):=KL_next hE (m:=c+1) (by omega) (by rw[hJ];simp);have hY:(mGet es2 ((x:Nat):Int) (Ty.dflt (.int .i64)):Int)=(LK.count (x:Int):Nat):=by have:=hg.eq ((x:Nat):Int);refine this.trans ?_;rw[hH,List.count_eq_zero.2 fK_self,Nat.mul_zero,Nat.add_zero]
     have hZ:(mGet es2 ((((x:Nat):Int).toNat ||| ((1:Int)*2 ^ (Int.toNat (c:Int))).toNat:Nat):Int) (Ty.dflt (.int .i64)):Int)=((mc ((x ||| 2 ^ c:Nat):Int)+LK.count (x:Int)*(fK (pG ps) cs.length (x:Int) c).count ((x ||| 2 ^ c:Nat):Int):Nat):Int):=by rw[hU];exact hg.eq _
     have Hf:=hv ((x ||| 2 ^ c:Nat):Int);have Hh:LK.count (x:Int)*(fK (pG ps) cs.length (x:Int) c).count ((x ||| 2 ^ c:Nat):Int)≤1000000000*10:=Nat.mul_le_mul (by omega) (by have:=List.count_le_length (a:=((x ||| 2 ^ c:Nat):Int)) (l:=fK (pG ps) cs.length (x:Int) c);have:=fK_len (P:=pG ps) (n:=cs.length) (x:Int) c;omega)
     have hC:=hg.add ((x ||| 2 ^ c:Nat):Int) (LK.count (x:Int)) (.inr hq) (v:=(mGet es2 ((((x:Nat):Int).toNat ||| ((1:Int)*2 ^ (Int.toNat (c:Int))).toNat:Nat):Int) (Ty.dflt (.int .i64)):Int)+(mGet es2 ((x:Nat):Int) (Ty.dflt (.int .i64)):Int)) (by rw[hY,hZ]);have Hi:(0:Int)≤(mGet es2 ((((x:Nat):Int).toNat ||| ((1:Int)*2 ^ (Int.toNat (c:Int))).toNat:Nat):Int) (Ty.dflt (.int .i64)):Int)+(mGet es2 ((x:Nat):Int) (Ty.dflt (.int .i64)):Int)∧(mGet es2 ((((x:Nat):Int).toNat ||| ((1:Int)*2 ^ (Int.toNat (c:Int))).toNat:Nat):Int) (Ty.dflt (.int .i64)):Int)+(mGet es2 ((x:Nat):Int) (Ty.dflt (.int .i64)):Int)≤1000000000000:=by
      have hS:mc ((x ||| 2 ^ c:Nat):Int)+LK.count (x:Int)*(fK (pG ps) cs.length (x:Int) c).count ((x ||| 2 ^ c:Nat):Int)+LK.count (x:Int)≤100000000000:=by omega
      rw[hY,hZ];generalize mc ((x ||| 2 ^ c:Nat):Int)+LK.count (x:Int)*(fK (pG ps) cs.length (x:Int) c).count ((x ||| 2 ^ c:Nat):Int)=X at hS ⊢;generalize LK.count (x:Int)=Y at hS ⊢;dsimp only[Ty.den] at hS ⊢;omega
     rw[← hU] at hC;clear hV he hP c29 hY hZ Hf Hh;refine zK1 ?_;refine q4h xk (Tryz.f27.body.getD .skip) ⟨RB (vF d cs ps W B) k++[(9,vS64 x),(28,.lf (.osl 6)),(29,vI old.length),(30,vI (j:Int)),(39,vI cs.length),(40,vI (c:Int))],(6,.sl 77 u64T old)::HD a1 b1 (vF d cs ps W B) cs.length k (mPut es2 clk2 (((((x:Nat):Int).toNat ||| ((1:Int)*2 ^ (Int.toNat (c:Int))).toNat:Nat):Int)) ((mGet es2 (((((x:Nat):Int).toNat ||| ((1:Int)*2 ^ (Int.toNat (c:Int))).toNat:Nat):Int)) (Ty.dflt (.int .i64)):Int)+(mGet es2 ((x:Nat):Int) (Ty.dflt (.int .i64)):Int))) (mClk es2 clk2 (((((x:Nat):Int).toNat ||| ((1:Int)*2 ^ (Int.toNat (c:Int))).toNat:Nat):Int))),7⟩ rfl 11 rfl ?_ ?_
     ·(refine q7 1 xk rfl rfl (q7 2 xk rfl rfl (q7 3 xk rfl rfl (q7 4 xk rfl rfl (q7 7 xk rfl rfl ?_))));refine k8 0 [6] xk StF.nil (BrF.one rfl rfl ?_ (BrF.one rfl rfl ?_ BrF.nil));(· refine zK3 ?_;refine q8 ?_;refine k8 5 [6] xk StF.nil (BrF.one rfl rfl ?_ (BrF.one rfl rfl ?_ BrF.nil));(· refine zK3 ?_;refine q8 ?_;refine zU 6 xk rfl rfl ?_;refine zK3 ?_;refine q8 ?_;refine zU 8 xk rfl rfl ?_;refine zK3 ?_;refine q8 ?_;refine q7 9 xk rfl rfl (zU 10 xk rfl rfl ?_);exact zB4);(· refine zK3 ?_;refine q8 ?_;refine k8 5 [8] xk StF.nil (BrF.one rfl rfl ?_ (BrF.one rfl rfl ?_ BrF.nil));(· refine zK3 ?_;refine q8 ?_;refine zU 8 xk rfl rfl ?_;refine zK3 ?_;refine q8 ?_;refine q7 9 xk rfl rfl (zU 10 xk rfl rfl ?_);exact zB4);(· refine zK3 ?_;refine q8 ?_;refine zU 5 xk rfl rfl ?_;refine zK3 ?_;refine q8 ?_;refine q7 9 xk rfl rfl (zU 10 xk rfl rfl ?_);exact zB4)));(· refine zK3 ?_;refine q8 ?_;refine k8 0 [8] xk StF.nil (BrF.one rfl rfl ?_ (BrF.one rfl rfl ?_ BrF.nil));(· refine zK3 ?_;refine q8 ?_;refine k8 5 [8] xk StF.nil (BrF.one rfl rfl ?_ (BrF.one rfl rfl ?_ BrF.nil));(· refine zK3 ?_;refine q8 ?_;refine zU 8 xk rfl rfl ?_;refine zK3 ?_;refine q8 ?_;refine q7 9 xk rfl rfl (zU 10 xk rfl rfl ?_);exact zB4);(· refine zK3 ?_;refine q8 ?_;refine zU 5 xk rfl rfl ?_;refine zK3 ?_;refine q8 ?_;refine q7 9 xk rfl rfl (zU 10 xk rfl rfl ?_);refine zK3 ?_;refine q8 ?_;refine v6 xk StF.nil ?_;(exact zJ)));(· refine zK3 ?_;refine q8 ?_;refine zU 0 xk rfl rfl ?_;refine zK3 ?_;refine q8 ?_;refine zU 5 xk rfl rfl ?_;refine zK3 ?_;refine q8 ?_;refine q7 9 xk rfl rfl (zU 10 xk rfl rfl ?_);refine zK3 ?_;refine q8 ?_;refine v6 xk StF.nil ?_;(exact zJ))))
     generalize mPut es2 clk2 (((((x:Nat):Int).toNat ||| ((1:Int)*2 ^ (Int.toNat (c:Int))).toNat:Nat):Int)) ((mGet es2 (((((x:Nat):Int).toNat ||| ((1:Int)*2 ^ (Int.toNat (c:Int))).toNat:Nat):Int)) (Ty.dflt (.int .i64)):Int)+(mGet es2 ((x:Nat):Int) (Ty.dflt (.int .i64)):Int))=es3 at hC ⊢;generalize mClk es2 clk2 (((((x:Nat):Int).toNat ||| ((1:Int)*2 ^ (Int.toNat (c:Int))).toNat:Nat):Int))=clk3 at hC ⊢;refine zK0 ?_;refine⟨(c+1,es3,clk3),by exact zJ,⟨by dsimp only;omega,hC.congr fun p=>?_⟩,by dsimp only;omega⟩;dsimp only;rw[hJ,List.count_append,Nat.mul_add,← Nat.add_assoc,hU];exact cnt1 _ _ _ _
    ·have hP:=hV.symm.trans he;rw[if_neg (by rw[hP];simp)] at hJ;refine zK0 ?_;refine⟨(c+1,es2,clk2),by exact zJ,⟨by dsimp only;omega,hg.congr fun p=>?_⟩,by dsimp only;omega⟩;dsimp only;rw[hJ]
   ·replace hd:=zC hd;have Hj:c=cs.length:=by omega
    subst Hj
    (repeat (first|refine zs rfl ?_|refine z38 ?_|refine zmd mpU rfl rfl rfl ?_|refine zdm z2z rfl rfl ?_))
    refine⟨(j+1,mDel es2 ((x:Nat):Int),clk2),by exact zJ,⟨by dsimp only;omega,?_⟩,by dsimp only;omega⟩;dsimp only;refine((hg.delQ (x:Int)).imp fun p hp=>?_).congr fun p=>?_
    ·obtain⟨Hk,Hl⟩:=hp;rcases Hk with⟨h1,h2⟩|h1
     ·refine .inl ⟨h1,fun hm=>?_⟩;rw[hR] at hm;rcases yy4.1 hm with hm|hm
      ·exact h2 hm
      ·exact Hl (yys.1 hm)
     ·exact .inr h1
    ·exact(hu p).symm
  ·replace hc:=zC hc;have Hm:old.take j=old:=yxn (by omega);rw[Hm] at hl;refine o9 (s':=⟨RB (vF d cs ps W B) k,HD a1 b1 (vF d cs ps W B) cs.length k es1 clk1,10⟩) (by exact zJ) ?_;refine zK0 ?_;refine JK.done (hK es1 clk1 ?_);refine(hl.imp fun p hp=>?_).congr fun p=>?_
   ·rcases hp with⟨h1,h2⟩|h1
    ·exact absurd (hB p h1) h2
    ·exact h1
   ·rw[mix_all hB,KL_succ,hN]
 ·have hL:=ha.snoc hw.wf he h4;have Hn:=q7c he h4;obtain⟨x,many,born,rfl⟩:∃ (x:Int) (many:Int) (born:Nat),e=(x,many,born):=⟨e.1,e.2.1,e.2.2,rfl⟩;refine zK0 ?_;refine q9 rfl (fun _=>?_) (fun h=>absurd h (by decide));refine zK0 ?_;refine z7z rfl rfl rfl rfl rfl he hw.wf rfl ?_;refine zK0 ?_;refine⟨(done++[(x,many,born)],clk),?_,⟨hL,yyn _⟩,by simpa using Hn⟩
  (refine q3w (by conv=>lhs;reduce) ?_ ?_ ?_ ?_ rfl<;>(repeat' (first|exact trivial|exact rfl|refine And.intro ?_ ?_|exact yyc rfl|refine q30 ?_|refine q3z ?_|(refine congrArg (fun z:Int=>some (AV.val (.int .i64) z)) ?_;push_cast;omega)|(simp))))
end
variable{cs:List CoD}
set_option maxRecDepth 20000 in
set_option maxHeartbeats 4000000 in
def fn27{ps:List (List Int)}(h:VG d cs ps){W:List RgD}(hW:W.length=10)(hj:∀ x,x<cs.length→loR W x≤0∧(cs.length:Int)-1≤hiR W x) :
  Ox.Fn Tryz.prog 27 (.acons (vF d cs ps W (befL ps)) .anil) (·=vI ((lvl (pG ps) cs.length cs.length).length:Nat)):=by
 refine Ox.Fn.intro xok Tryz.func27 rfl Tryz.call27 (yyc rfl) (fun E M0 up=>?_);refine JK.start ?_;have hd:=h.n10;have c81:=fn63 d cs ps W (befL ps);have c84:=fn64 d cs ps W (befL ps) hd;have hh:=h.bef;have hb:=h.bef_len;generalize befL ps=B at c81 c84 hh hb ⊢
 (repeat (first|refine zs rfl ?_|refine zmi mpU rfl rfl rfl rfl ?_|refine zmm mpU rfl ?_|refine zlf fun75 rfl rfl rfl ?_|refine zlm z2z rfl rfl rfl ?_|refine ze rfl (c81) rfl ?_))
 refine q87 [1,3,4] rfl rfl rfl Tryz.func110 rfl Tryz.call110 (yyc rfl) trivial fun M3 up3 a1 b1 hl hp=>?_;refine zK0 ?_;refine JK.loop (σ:=Nat×List EnU×Nat) (fun q=>⟨[(0,.lf (.yld 2)),(9,vI cs.length),(10,vI (q.1:Int))],HC .ready a1 b1 (vF d cs ps W B) q.2.1 q.2.2,4⟩)
  (fun q=>q.1≤cs.length∧CM (kt:=u64T) (fun p=>p∈KL (pG ps) cs.length q.1) q.2.1 q.2.2 fun p=>(KL (pG ps) cs.length q.1).count p) (fun q=>cs.length-q.1) (0,mPut [] 0 (0:Int) (1:Int),1)
  ⟨yyu _,cm_zero (pG ps) cs.length⟩ (by exact zJ) fun⟨k,es,clk⟩ ⟨hk,he⟩=>?_
 dsimp only at hk he ⊢;refine zK0 ?_;refine q9 rfl (fun hc=>?_) (fun hc=>?_)
 ·replace hc:=zC hc;have hu:k<cs.length:=by omega
  refine zK0 ?_;refine j4n [0,9,10] (L0:=[(17,vI (k:Int)),(1,.lf (.optr 0 [])),(3,.pfn (.lf (.mp 1))),(4,p44 (vF d cs ps W B))]) rfl rfl trivial rfl rfl rfl rfl fun M4 up4 bl hw=>q1d hl ?_;refine zK0 ?_;refine JK.done (z1u rfl rfl rfl rfl (JK.start (q1d hp ?_)));refine o9 (s':=⟨RB (vF d cs ps W B) k,HD a1 b1 (vF d cs ps W B) cs.length k es clk,5⟩) (by exact zJ) ?_;show JK _ [.code (rgsB 0 Tryz.f27.body)] _ _;refine cnt_body h hW hj hh hb hu he fun es' clk' hg=>?_;refine bodyQ.of rfl rfl rfl rfl rfl rfl ?_;refine zK0 ?_;refine q9 rfl (fun h=>by cases h) (fun _=>?_);refine zK0 ?_;exact⟨(k+1,es',clk'),by exact zJ,⟨by dsimp only;omega,hg⟩,by dsimp only;omega⟩
 ·replace hc:=zC hc;have hv:k=cs.length:=by omega
  subst hv;refine zK0 ?_;refine JK.done (rngQ.of (.inr rfl) rfl rfl rfl rfl rfl rfl rfl (z5m ?_));have ha:(mGet es ((2 ^ cs.length-1:Nat):Int) (Ty.dflt (.int .i64)):Int)=(((lvl (pG ps) cs.length cs.length).length:Nat):Int):=by rw[← KL_all];exact he.eq _
  have hy:(mGet es ((2 ^ cs.length-1:Nat):Int) (Ty.dflt (.int .i64)):Int)=(((lvl (pG ps) cs.length cs.length).length:Nat):Int):=ha;generalize ((lvl (pG ps) cs.length cs.length).length:Nat)=R at ha ⊢;refine zK1 ?_;refine y5 xk (Tryz.f27.body.getD .skip) ⟨[(2,vI (mGet es ((2 ^ cs.length-1:Nat):Int) (Ty.dflt (.int .i64)):Int))],[],4⟩ rfl 5 rfl ?_ ?_
  ·(refine z7 1 xk rfl rfl ?_;refine k8 0 [2] xk ?_ ?_;exact zS;refine(BrF.one rfl rfl ?_ (BrF.one rfl rfl ?_ BrF.nil));(· refine zK8 ?_;refine q8 ?_;refine zU 2 xk rfl rfl ?_;refine zK8 ?_;refine q8 ?_;refine zU 3 xk rfl rfl ?_;refine zK8 ?_;refine q8 ?_;refine q7 4 xk rfl rfl ?_;refine v6 xk StF.nil ?_;(exact zJ));(· refine zK8 ?_;refine q8 ?_;refine zU 0 xk rfl rfl ?_;refine zK8 ?_;refine q8 ?_;refine zU 3 xk rfl rfl ?_;refine zK8 ?_;refine q8 ?_;refine q7 4 xk rfl rfl ?_;refine v6 xk StF.nil ?_;(exact zJ)))
  refine zK0 ?_;refine zR rfl trivial ?_;exact congrArg vI ha
abbrev vT2i(n e:Int):AV:=.tup (.acons (vI n) (.acons (vI e) .anil))
def fn11{ps:List (List Int)}(h:VG d cs ps)(ha:∀ x,x<cs.length→loR (winL d cs) x≤0∧(cs.length:Int)-1≤hiR (winL d cs) x) :
  Ox.Fn Tryz.prog 11 (.acons (vG d cs ps) .anil) (·=vT2i ((lvl (pG ps) cs.length cs.length).length:Nat) 0):=by
 refine Ox.Fn.intro xok Tryz.func11 rfl Tryz.call11 (yyc rfl) (fun E M0 up=>?_);refine JK.start ?_;have c26:=fn26 h [] (fun x hx=>absurd hx yxi);have c44:=fn27 h (q0w _ _) ha
 (repeat (first|refine zs rfl ?_|refine ze rfl (c26) rfl ?_))
 refine q9 rfl (fun h=>absurd h (by decide)) (fun _=>?_)
 (repeat (first|refine zs rfl ?_|refine n3 ?_|refine zc rfl (c44) rfl rfl ?_))
 refine zR rfl trivial ?_;rfl
end Go.Proofs.YtcijjbccigbflaaGreatDoor.Ga
namespace Ox
open Go Go.RowKit
variable {X:Ctx}{s:S}{M:Mem}{ρ:Env}{a:Act}{w w':World}{QA:Exit→S→Prop}{all l:List Oper}{o:Oper}
section
variable {L:List (Nat×AV)}{H:List (Nat×HO)}{nx:Nat}{ty:TypeId}{ps:String}{af:Array Edge}{md:Bool}{c1:List Prop}
variable {kt:Ty}{t:TypeId}{om ok:Operand}{c2:List Prop}{x y:kt.den}{dd:Nat}{g:Bool}{gg:Nat×Bool}
end
end Ox
namespace Go.Proofs.YtcijjbccigbflaaGreatDoor.Ga
open Go Go.RowKit Ox Ox.Gl
attribute [local irreducible] JC JL JK JW
def fn19(lo hi:Int):Ox.Fn Tryz.prog 19 (.acons (vI lo) (.acons (vI hi) .anil)) (·=vRg (lo,hi,())):=by refine Ox.Fn.intro xok Tryz.func19 rfl Tryz.call19 (yyc rfl) (fun E M0 up=>?_);refine JK.start ?_;refine zK0 ?_;refine zR rfl trivial ?_;rfl
def fn6(lo hi le mo:Int):Ox.Fn Tryz.prog 6 (.acons (vI lo) (.acons (vI hi) (.acons (vI le) (.acons (vI mo) .anil)))) (·=vCo ((lo,hi,()),le,mo,())):=by
 refine Ox.Fn.intro xok Tryz.func6 rfl Tryz.call6 (yyc rfl) (fun E M0 up=>?_);refine JK.start ?_;have c65:=fn19 lo hi
 (repeat (first|refine zs rfl ?_|refine n3 ?_|refine ze rfl (c65) rfl ?_))
 refine zR rfl trivial ?_;rfl
def fn23(d:Int)(cs:List CoD)(ps:List (List Int))(c:Int):Ox.Fn Tryz.prog 23 (.acons (vG d cs ps) (.acons (vI c) .anil)) (·=vB (decide (0≤c∧c<cs.length))):=by refine Ox.Fn.intro xok Tryz.func23 rfl Tryz.call23 (yyc rfl) (fun E M0 up=>?_);refine JK.start ?_;refine zK0 ?_;refine zR rfl trivial ?_;by_cases h:0≤c<;>simp[h]
def fn34(d:Int)(cs:List CoD)(ps:List (List Int))(a b:Int):Ox.Fn Tryz.prog 34 (.acons (vG d cs ps) (.acons (vI a) (.acons (vI b) .anil))) (·=vB (decide ([a,b]∈ps))):=by
 refine Ox.Fn.intro xok Tryz.func34 rfl Tryz.call34 (yyc rfl) (fun E M0 up=>?_);refine JK.start ?_;refine JK.lenOf 0 rfl fun ha=>?_;have hg:ps.length≤9223372036854775807:=ha.2.2.1.1;clear ha;refine zK0 ?_;refine JK.loop (fun i:Nat=>⟨[(1,vI a),(2,vI b),(3,.lf (.optr 0 [])),(7,vI (i:Int))],[(0,.cell glT (vG d cs ps))],1⟩) (fun i=>i≤ps.length∧∀ j,j<i→ps.getD j prT.dflt≠[a,b]) (fun i=>ps.length-i) 0 ⟨yyu _,fun j h=>absurd h (Nat.not_lt_zero j)⟩ (by exact zJ) fun i ⟨hi,hn⟩=>?_;refine zK0 ?_;refine q9 rfl (fun hc=>?_) (fun hc=>?_)
 ·replace hc:=zC hc;have hb:i<ps.length:=by omega
  have hz:ps.getD (Int.toNat (i:Int)) prT.dflt=ps.getD i prT.dflt:=rfl
  (repeat (first|refine zs rfl ?_|refine zeq eqPr rfl rfl rfl ?_))
  rw[hz];refine q9 rfl (fun hd=>?_) (fun hd=>?_)
  ·have he:ps.getD i prT.dflt=[a,b]:=v9.1 hd;refine zK0 ?_;refine zR rfl trivial ?_;rw[decide_eq_true];rw[← he,j7 ps hb];exact yy3 hb
  ·refine zK0 ?_;refine⟨i+1,by exact zJ,⟨by omega,fun j hj=>?_⟩,by omega⟩;rcases Nat.lt_succ_iff_lt_or_eq.1 hj with h|rfl
   ·exact hn j h
   ·intro e;have hd:prT.eqB (ps.getD j prT.dflt) [a,b]=false:=hd;rw[e,v9.2 rfl] at hd;cases hd
 ·replace hc:=zC hc;refine zK0 ?_;refine zR rfl trivial ?_;rw[decide_eq_false];intro h;obtain⟨j,h1,h2⟩:=yxp.1 h;exact hn j (by omega) (by rw[j7 ps h1];exact h2)
abbrev LB53(n s:Nat):List (Nat×AV):=[(1,.lf (.optr 0 [])),(3,vI (n:Int)),(4,.lf (.osl 1)),(6,vI (s:Int))]
def fn24(d:Int)(cs:List CoD)(ps:List (List Int))(hn:cs.length≤15)(h2:∀ p∈ps,p.length=2)(hp:∀ p∈ps,okPr cs.length p) :
  Ox.Fn Tryz.prog 24 (.acons (vG d cs ps) .anil) (·=vB ((List.range cs.length).any fun i=>onB (pG ps) cs.length cs.length i)):=by
 refine Ox.Fn.intro xok Tryz.func24 rfl Tryz.call24 (yyc rfl) (fun E M0 up=>?_);refine JK.start ?_;have c32:∀ i k:Nat,Ox.Fn Tryz.prog 34 (.acons (vG d cs ps) (.acons (vI (i:Int)) (.acons (vI (k:Int)) .anil))) (·=vB (pG ps i k)):=fun i k=>by have:=fn34 d cs ps (i:Int) (k:Int);rw[pr_mem h2 hp] at this;exact this
 generalize hP:pG ps=P at c32;clear h2 hp;obtain⟨n,hD⟩:∃ n,cs.length=n:=⟨_,rfl⟩;have hE:oneL n 0=List.replicate (Int.toNat (n:Int)) (Ty.int .i64).dflt:=by rw[Int.toNat_natCast];exact j0q n
 have hF:∀ on,innL P n on 0 0=List.replicate (Int.toNat (n:Int)) (Ty.int .i64).dflt:=fun on=>by rw[Int.toNat_natCast];exact j13
 have hw:oneL n n=onL P n 0:=oneL_all;refine zK0 ?_;rw[hD];rw[hD] at hn;refine JK.loop (fun i:Nat=>⟨[(1,.lf (.optr 0 [])),(3,vI (n:Int)),(4,.lf (.osl 1)),(5,vI (i:Int))],[(0,.cell glT (vG d cs ps)),(1,.sl 3 (.int .i64) (oneL n i))],2⟩) (fun i=>i≤n) (fun i=>n-i) 0 (yyu _) (by rw[hE];exact zJ) fun i hi=>?_;have hl:=oneL_set (n:=n) (i:=i);have hy:=oneL_len n i;have ha:i=n→oneL n i=onL P n 0:=fun e=>by rw[e,hw]
 generalize oneL n i=R at hl hy ha ⊢;refine zK0 ?_;refine q9 rfl (fun hc=>?_) (fun hc=>?_)
 ·replace hc:=zC hc;refine zK0 ?_;refine⟨i+1,?_,by omega,by omega⟩;rw[← hl];exact zJ
 replace hc:=zC hc;rw[ha (by omega)];clear hl hy ha hi hc;refine zK0 ?_;refine JK.loop (fun s:Nat=>⟨LB53 n s,[(0,.cell glT (vG d cs ps)),(1,.sl 3 (.int .i64) (onL P n s))],2⟩) (fun s=>s≤n) (fun s=>n-s) 0 (yyu _) (by exact zJ) fun s hs=>?_;have hz:=j0s (P:=P) (n:=n) (k:=s);have hg:=fun j h=>j0t (P:=P) (n:=n) (k:=s) (j:=j) h;have hall:=innL_all (P:=P) (n:=n) (k:=s);have ha:s=n→onL P n s=onL P n n:=fun e=>by rw[e]
 generalize onL P n s=A at hz hg ha ⊢;generalize hH:onL P n (s+1)=A' at hall;generalize onB P n s=on at hg hall;refine zK0 ?_;refine q9 rfl (fun hc=>?_) (fun hc=>?_)
 ·replace hc:=zC hc;refine zK0 ?_;refine JK.loop (fun i:Nat=>⟨LB53 n s++[(7,.lf (.osl 2)),(8,vI (i:Int))],[(0,.cell glT (vG d cs ps)),(1,.sl 3 (.int .i64) A),(2,.sl 3 (.int .i64) (innL P n on i 0))],3⟩) (fun i=>i≤n) (fun i=>n-i) 0 (yyu _) (by rw[hF];exact zJ) fun i hi=>?_;have hB:=innL_row (P:=P) (n:=n) (on:=on) (i:=i);have hh:i=n→innL P n on i 0=A':=fun e=>by rw[e];exact hall
  have hC:=z63 (P:=P) (n:=n) (on:=on) (i:=i) (m:=0);generalize hJ:innL P n on i 0=I0 at hh hC ⊢;refine zK0 ?_;refine q9 rfl (fun hd=>?_) (fun hd=>?_)
  ·replace hd:=zC hd;have hA:i<n:=by omega
   refine zK0 ?_;refine JK.loop (fun k:Nat=>⟨LB53 n s++[(7,.lf (.osl 2)),(8,vI (i:Int)),(9,vI (k:Int))],[(0,.cell glT (vG d cs ps)),(1,.sl 3 (.int .i64) A),(2,.sl 3 (.int .i64) (innL P n on i k))],3⟩) (fun k=>k≤n) (fun k=>n-k) 0 (yyu _) (by rw[hJ];exact zJ) fun k hk=>?_;have hb:=innL_yes (P:=P) (n:=n) (on:=on) (i:=i) (m:=k);have hu:=innL_no (P:=P) (n:=n) (on:=on) (i:=i) (m:=k);have hK:=z63 (P:=P) (n:=n) (on:=on) (i:=i) (m:=k);have hG:k=n→innL P n on i k=innL P n on (i+1) 0:=fun e=>by rw[e,hB]
   have hv:(bif A.getD (Int.toNat (i:Int)) (Ty.int .i64).dflt==1 then P i k else false)=decide (on i=true∧P i k=true):=by rw[Int.toNat_natCast,show A.getD i (Ty.int .i64).dflt=_ from hg i hA];cases on i<;>simp
   generalize innL P n on i k=T at hb hu hK hG ⊢;have c32:=c32 i k;refine zK0 ?_;refine q9 rfl (fun he=>?_) (fun he=>?_)
   ·replace he:=zC he
    (repeat (first|refine zs rfl ?_|refine zg rfl rfl rfl ?_|refine zk rfl rfl (fun _=>c32) rfl rfl ?_))
    rw[hv];refine q9 rfl (fun hf=>?_) (fun hf=>?_)
    ·have hb:=hb (of_decide_eq_true hf);refine zK0 ?_;refine⟨k+1,?_,by omega,by omega⟩;rw[← hb];exact zJ
    ·have hu:=hu (of_decide_eq_false hf);refine zK0 ?_;refine⟨k+1,?_,by omega,by omega⟩;rw[hu];exact zJ
   ·replace he:=zC he;rw[hG (by omega)];refine zK0 ?_;exact⟨i+1,by exact zJ,by omega,by omega⟩
  ·replace hd:=zC hd;rw[hh (by omega)];refine zK0 ?_;refine⟨s+1,?_,by omega,by omega⟩;rw[hH];exact zJ
 ·replace hc:=zC hc;rw[ha (by omega)];clear hz hg hall ha hs hc c32 hw hF hE;have hz:=j0s (P:=P) (n:=n) (k:=n);have hg:=fun j h=>j0t (P:=P) (n:=n) (k:=n) (j:=j) h;generalize onL P n n=A at hz hg ⊢;generalize onB P n n=on at hg;refine zK0 ?_;refine JK.loop (fun i:Nat=>⟨[(3,vI (n:Int)),(4,.lf (.osl 1)),(10,vI (i:Int))],[(1,.sl 3 (.int .i64) A)],2⟩) (fun i=>i≤n∧∀ j,j<i→on j=false) (fun i=>n-i) 0 ⟨yyu _,fun j h=>absurd h (Nat.not_lt_zero j)⟩ (by exact zJ) fun i ⟨hi,hu⟩=>?_;refine zK0 ?_;refine q9 rfl (fun hd=>?_) (fun hd=>?_)
  ·replace hd:=zC hd;have hA:i<n:=by omega
   have hv:(A.getD (Int.toNat (i:Int)) (Ty.int .i64).dflt==1)=on i:=by rw[Int.toNat_natCast,show A.getD i (Ty.int .i64).dflt=_ from hg i hA];cases on i<;>simp
   refine zK0 ?_;rw[hv];refine q9 rfl (fun he=>?_) (fun he=>?_)
   ·refine zK0 ?_;refine zR rfl trivial ?_;rw[List.any_eq_true.2 ⟨i,yyt.2 hA,he⟩]
   ·refine zK0 ?_;refine⟨i+1,by exact zJ,⟨by omega,fun j hj=>?_⟩,by omega⟩;rcases Nat.lt_succ_iff_lt_or_eq.1 hj with h|rfl
    ·exact hu j h
    ·exact he
  ·replace hd:=zC hd;refine zK0 ?_;refine zR rfl trivial ?_;refine congrArg vB (Eq.symm ?_);rw[← Bool.not_eq_true,List.any_eq_true];rintro⟨j,h1,h2⟩;rw[hu j (by have:=yyt.1 h1;omega)] at h2;cases h2
def fn8(d:Int)(cs:List CoD)(ps:List (List Int)):Ox.Fn Tryz.prog 8 (.acons (vG d cs ps) .anil) (·=vI (chkE d cs ps)):=by
 refine Ox.Fn.intro xok Tryz.func8 rfl Tryz.call8 (yyc rfl) (fun E M0 up=>?_);refine JK.start ?_;refine JK.lenOf 0 rfl fun hg=>?_;have h2:∀ p∈ps,p.length=2:=fun p h=>by obtain⟨i,hi,e⟩:=yxp.1 h;have h2:(ps.get ⟨i,hi⟩).length=2:=(hg.2.2.1.2 i hi).1;rw[← e];exact h2
 have hM:ps.length≤9223372036854775807:=hg.2.2.1.1;have hN:cs.length≤9223372036854775807:=hg.2.1.1;clear hg;have c52:=fn23 d cs ps;have c53:=fun k=>fn24 d cs ps k h2;refine zK0 ?_;refine q9 rfl (fun hc=>?_) (fun hc=>?_)
 ·refine zK0 ?_;refine zR rfl trivial ?_;refine congrArg vI (chk_a fun h=>?_).symm;by_cases c1:(cs.length:Int)<1<;>by_cases c2:(cs.length:Int)>10<;>simp[c1,c2] at hc<;>omega
 have hb:1≤cs.length∧cs.length≤10∧ps.length≤40:=by by_cases c1:(cs.length:Int)<1<;>by_cases c2:(cs.length:Int)>10<;>simp[c1,c2] at hc<;>omega
 clear hc;have hA:=hb;obtain⟨b1,b2,b3⟩:=hb;refine zK0 ?_;refine q9 rfl (fun hc=>?_) (fun hc=>?_)
 ·refine zK0 ?_;refine zR rfl trivial ?_;refine congrArg vI (chk_b hA fun h=>?_).symm;by_cases c1:d<1<;>simp[c1] at hc<;>omega
 have hb:1≤d∧d≤100:=by by_cases c1:d<1<;>simp[c1] at hc<;>omega
 clear hc;have hw:=hb;obtain⟨b4,b5⟩:=hb;refine zK0 ?_;refine JK.loop (fun i:Nat=>⟨[(1,.lf (.optr 0 [])),(3,vI (i:Int))],[(0,.cell glT (vG d cs ps))],1⟩) (fun i=>i≤cs.length∧∀ j,j<i→okCo (cs.getD j coZ)) (fun i=>cs.length-i) 0 ⟨yyu _,fun j h=>absurd h (Nat.not_lt_zero j)⟩ (by exact zJ) fun i ⟨hi,hn⟩=>?_;refine zK0 ?_;refine q9 rfl (fun hc=>?_) (fun hc=>?_)
 ·replace hc:=zC hc;have hh:i<cs.length:=by omega
  have hz:cs.getD (Int.toNat (i:Int)) coT.dflt=cs.getD i coZ:=rfl;have hl:cs.getD i coZ∈cs:=by rw[yyk,yyl hh];exact yy3 hh
  refine zK1 ?_;rw[hz];have hJ:=fun j (h:j<i+1)=>(Nat.lt_succ_iff_lt_or_eq.1 h);generalize hq:cs.getD i coZ=q at hl ⊢;obtain⟨⟨u,v,_⟩,x,y,_⟩:=q;refine zK0 ?_;refine q9 rfl (fun hd=>?_) (fun hd=>?_)
  ·refine zK0 ?_;refine zR rfl trivial ?_;refine congrArg vI (chk_c hA hw fun h=>?_).symm;obtain⟨⟨k1,k2,k3⟩,k4,k5,k6⟩:=h _ hl;replace k1:0≤u:=k1;replace k2:u≤v:=k2;replace k3:v≤1000:=k3;replace k4:0≤x:=k4;replace k5:x≤y:=k5;replace k6:y≤1000:=k6;replace hd:=zC hd;omega
  ·have hE:okCo ((u,v,()),x,y,()):=by show(0≤u∧u≤v∧v≤1000)∧0≤x∧x≤y∧y≤1000;replace hd:=zC hd;omega
   refine zK0 ?_;refine⟨i+1,by exact zJ,⟨by omega,fun j hj=>?_⟩,by omega⟩;rcases hJ j hj with h|rfl
   ·exact hn j h
   ·rw[hq];exact hE
 replace hc:=zC hc;have hy:∀ c∈cs,okCo c:=fun c h=>by obtain⟨j,h1,h3⟩:=yxp.1 h;have:=hn j (by omega);rw[yyk,yyl h1] at this;rw[← h3];exact this
 clear hn hc hi;refine zK0 ?_;refine JK.loop (fun i:Nat=>⟨[(1,.lf (.optr 0 [])),(5,vI (i:Int))],[(0,.cell glT (vG d cs ps))],1⟩) (fun i=>i≤ps.length∧(∀ p∈ps.take i,okPr cs.length p)∧(ps.take i).Nodup) (fun i=>ps.length-i) 0 ⟨yyu _,by simp,by simp⟩ (by exact zJ) fun i ⟨hi,hu,hC⟩=>?_;refine zK0 ?_;refine q9 rfl (fun hc=>?_) (fun hc=>?_)
 ·replace hc:=zC hc;have hh:i<ps.length:=by omega
  have hz:ps.getD (Int.toNat (i:Int)) prT.dflt=ps.getD i prT.dflt:=rfl;have hl:ps.getD i prT.dflt∈ps:=by rw[j7 ps hh];exact yy3 hh
  have hD:ps.take (i+1)=ps.take i++[ps.getD i prT.dflt]:=by rw[yxy hh,j7 ps hh]
  have hv:(ps.take (i+1)).Sublist ps:=List.take_sublist _ _;have hF:=fun k (h:k<i)=>show ps.getD k prT.dflt∈ps.take i by rw[j7 ps (by omega),List.mem_take_iff_getElem];exact⟨k,by omega,rfl⟩
  have hG:∀ x∈ps.take i,∃ k,k<i∧ps.getD k prT.dflt=x:=fun x h=>by rw[List.mem_take_iff_getElem] at h;obtain⟨q,h1,h2⟩:=h;exact⟨q,by omega,by rw[j7 ps (by omega)];exact h2⟩
  generalize hp:ps.getD i prT.dflt=p at hl hD hz;refine zK1 ?_;rw[hz]
  (repeat (first|refine zs rfl ?_|refine zg rfl rfl rfl ?_|refine zc rfl (c52 (p.getD (Int.toNat 0) (Ty.int .i64).dflt)) rfl rfl ?_|refine zk rfl rfl (fun _=>c52 (p.getD (Int.toNat 1) (Ty.int .i64).dflt)) rfl rfl ?_))
  have z00:p.getD (Int.toNat 0) (Ty.int .i64).dflt=z0 p:=rfl;have z11:p.getD (Int.toNat 1) (Ty.int .i64).dflt=z1 p:=rfl;rw[z00,z11];refine q9 rfl (fun hd=>?_) (fun hd=>?_)
  ·refine zK0 ?_;refine zR rfl trivial ?_;refine congrArg vI (chk_d hA hw hy fun h=>?_).symm;obtain⟨k1,k2,k3⟩:=h.1 p hl;simp[k1,k2,k3] at hd
  ·have hE:okPr cs.length p:=by
    unfold okPr;generalize z0 p=a at hd ⊢;generalize z1 p=b at hd ⊢;by_cases c1:0≤a∧a<cs.length
    ·by_cases c2:0≤b∧b<cs.length
     ·simp[c1,c2] at hd;exact⟨c1,c2,hd⟩
     ·simp[c1,c2] at hd
    ·simp[c1] at hd
   clear hd;refine zK0 ?_;refine JK.loop (fun k:Nat=>⟨[(1,.lf (.optr 0 [])),(5,vI (i:Int)),(6,.lf (.optr 1 [])),(7,vI (k:Int))],[(0,.cell glT (vG d cs ps)),(1,.cell prT (vPr p))],2⟩) (fun k=>k≤i∧∀ j,j<k→ps.getD j prT.dflt≠p) (fun k=>i-k) 0 ⟨yyu _,fun j h=>absurd h (Nat.not_lt_zero j)⟩ (by exact zJ) fun k ⟨hk,hm⟩=>?_;refine zK0 ?_;refine q9 rfl (fun he=>?_) (fun he=>?_)
   ·replace he:=zC he;have hK:k<i:=by omega
    have hP:ps.getD (Int.toNat (k:Int)) prT.dflt=ps.getD k prT.dflt:=rfl;refine zK1 ?_;refine y5 xk (Tryz.f8.body.getD .skip) ⟨[(1,.lf (.optr 0 [])),(5,vI (i:Int)),(6,.lf (.optr 1 [])),(7,vI (k:Int)),(122,vB (prT.eqB (ps.getD k prT.dflt) p))],[(0,.cell glT (vG d cs ps)),(1,.cell prT (vPr p))],2⟩ rfl 7 rfl ?_ ?_
    ·(refine q7 0 xk rfl rfl (q7 2 xk rfl rfl (z7 1 xk rfl rfl (z7 3 xk rfl rfl (z7 4 xk rfl rfl (z7 5 xk rfl rfl (zU 6 xk rfl rfl ?_))))));refine zK11 ?_;refine q8 ?_;refine v6 xk ?_ ?_;exact zS;(exact zJ))
    refine q9 rfl (fun hd=>?_) (fun hd=>?_)
    ·refine zK0 ?_;refine zR rfl trivial ?_;refine congrArg vI (chk_d hA hw hy fun h=>?_).symm;have hH:=h.2.sublist hv;rw[hD,List.nodup_append] at hH;exact hH.2.2 _ (hF k hK) p yyi (v9.1 hd)
    ·refine zK0 ?_;refine⟨k+1,by exact zJ,⟨by omega,fun j hj=>?_⟩,by omega⟩;rcases Nat.lt_succ_iff_lt_or_eq.1 hj with h|rfl
     ·exact hm j h
     ·intro e;rw[e,v9.2 rfl] at hd;cases hd
   ·replace he:=zC he;have hQ:k=i:=by omega
    refine zK0 ?_;refine⟨i+1,by exact zJ,⟨by omega,?_,?_⟩,by omega⟩
    ·rw[hD];intro x hx;rcases yy4.1 hx with h|h
     ·exact hu x h
     ·rw[yys.1 h];exact hE
    ·rw[hD,List.nodup_append];refine⟨hC,by simp,fun a ha b hb=>?_⟩;rw[yys.1 hb];obtain⟨j,j1,j2⟩:=hG a ha;rw[← j2];exact hm j (by omega)
 ·replace hc:=zC hc;have hall:ps.take i=ps:=by rw[show i=ps.length by omega,yx3]
  rw[hall] at hu hC;have c53:=c53 (by omega) hu;generalize hB:((List.range cs.length).any fun i=>onB (pG ps) cs.length cs.length i)=B at c53
  (repeat (first|refine zs rfl ?_|refine zc rfl (c53) rfl rfl ?_))
  refine q9 rfl (fun hd=>?_) (fun hd=>?_)
  ·refine zK0 ?_;refine zR rfl trivial ?_;refine congrArg vI (chk_e hA hw hy ⟨hu,hC⟩ fun h=>?_).symm;rw[← hB,List.any_eq_true] at hd;obtain⟨j,j1,j2⟩:=hd;rw[on_NB h] at j2;cases j2
  ·refine zK0 ?_;refine zR rfl trivial ?_;refine congrArg vI (j3e.2 ⟨b1,b2,b3,b4,b5,hy,hu,hC,NB_of_on fun j hj=>?_⟩).symm;cases hL:onB (pG ps) cs.length cs.length j
   ·rfl
   ·rw[← hB] at hd;rw[List.any_eq_true.2 ⟨j,yyt.2 hj,hL⟩] at hd;cases hd
variable{cs:List CoD}
def fn8v{ps:List (List Int)}(h:VG d cs ps):Ox.Fn Tryz.prog 8 (.acons (vG d cs ps) .anil) (·=vI 0):=by have:=fn8 d cs ps;rw[j3e.2 h] at this;exact this
variable{k:Int}
def fn70{ps:List (List Int)}(h:VG d cs ps)(hc:c<cs.length)(h0:0≤k)(hk:k<cs.length) :
  Ox.Fn Tryz.prog 70 (.acons (vG d cs ps) (.acons (vI (c:Int)) (.acons (vI k) .anil))) (·=vRg (sprD d (cs.getD c coZ) k)):=by
 refine Ox.Fn.intro xok Tryz.func70 rfl Tryz.call70 (yyc rfl) (fun E M0 up=>?_);refine JK.start ?_;have ha:=kd_bd h0 hk h.n10 h.d1 h.d100;obtain⟨⟨k1,k2,k3⟩,k4,k5,k6⟩:=z0v h hc;have hz:cs.getD (Int.toNat (c:Int)) coT.dflt=cs.getD c coZ:=rfl;refine zK1 ?_;rw[hz];generalize cs.getD c coZ=q at k1 k2 k3 k4 k5 k6 ⊢;obtain⟨⟨u,v,_⟩,x,y,_⟩:=q;replace k1:0≤u:=k1;replace k2:u≤v:=k2;replace k3:v≤1000:=k3;have hs:sprD d ((u,v,()),x,y,()) k=(u-k*d,v-k*d,()):=rfl;rw[hs];refine zK0 ?_;refine zR rfl trivial ?_;rfl
def fn33{ps:List (List Int)}(h:VG d cs ps)(hc:c<cs.length)(h0:0≤k)(hk:k<cs.length) :
  Ox.Fn Tryz.prog 33 (.acons (vG d cs ps) (.acons (vI (c:Int)) (.acons (vI k) .anil))) (·=vB (suB d (cs.getD c coZ) k)):=by
 refine Ox.Fn.intro xok Tryz.func33 rfl Tryz.call33 (yyc rfl) (fun E M0 up=>?_);refine JK.start ?_;have c12:=fn70 h hc h0 hk;have hz:cs.getD (Int.toNat (c:Int)) coT.dflt=cs.getD c coZ:=rfl;refine zK1 ?_;refine y5 xk (Tryz.f33.body.getD .skip) ⟨[(7,.lf (.optr 1 [])),(8,.lf (.optr 2 []))],[(1,.cell rgT (vRg (sprD d (cs.getD c coZ) k))),(2,.cell coT (vCo (cs.getD c coZ)))],3⟩ rfl 13 rfl ?_ ?_
 ·(refine q7 1 xk rfl rfl (q7 2 xk rfl rfl (q7 4 xk rfl rfl (q7 6 xk rfl rfl (z7 0 xk rfl rfl (z7 5 xk rfl rfl (z7 7 xk rfl rfl (z7 8 xk rfl rfl ?_)))))));refine k8 3 [9,10] xk ?_ ?_;exact zS;refine(BrF.one rfl rfl ?_ (BrF.one rfl rfl ?_ (BrF.one rfl rfl ?_ BrF.nil)));(· refine zK9 ?_;refine q8 ?_;refine k8 9 [10] xk ?_ ?_;exact zS;refine(BrF.one rfl rfl ?_ (BrF.one rfl rfl ?_ BrF.nil));(· (refine r8 xk rfl rfl ?_);refine q8 ?_;refine zU 10 xk rfl rfl ?_;(refine r8 xk rfl rfl ?_);refine q8 ?_;refine zU 11 xk rfl rfl ?_;refine zK2 ?_;refine q8 ?_;refine zU 12 xk rfl rfl ?_;exact zB3);(· (refine r8 xk rfl rfl ?_);refine q8 ?_;refine zU 9 xk rfl rfl ?_;(refine r8 xk rfl rfl ?_);refine q8 ?_;refine zU 11 xk rfl rfl ?_;refine zK2 ?_;refine q8 ?_;refine zU 12 xk rfl rfl ?_;exact zB3));(· (refine r8 xk rfl rfl ?_);refine q8 ?_;refine k8 3 [10] xk ?_ ?_;exact zS;refine(BrF.one rfl rfl ?_ (BrF.one rfl rfl ?_ BrF.nil));(· refine zK9 ?_;refine q8 ?_;refine zU 10 xk rfl rfl ?_;(refine r8 xk rfl rfl ?_);refine q8 ?_;refine zU 11 xk rfl rfl ?_;refine zK2 ?_;refine q8 ?_;refine zU 12 xk rfl rfl ?_;exact zB3);(· (refine r8 xk rfl rfl ?_);refine q8 ?_;refine zU 3 xk rfl rfl ?_;refine zK9 ?_;refine q8 ?_;refine zU 11 xk rfl rfl ?_;refine zK2 ?_;refine q8 ?_;refine zU 12 xk rfl rfl ?_;exact zB3));(· (refine r8 xk rfl rfl ?_);refine q8 ?_;refine k8 3 [9] xk ?_ ?_;exact zS;refine(BrF.one rfl rfl ?_ (BrF.one rfl rfl ?_ BrF.nil));(· refine zK9 ?_;refine q8 ?_;refine zU 9 xk rfl rfl ?_;(refine r8 xk rfl rfl ?_);refine q8 ?_;refine zU 11 xk rfl rfl ?_;refine zK2 ?_;refine q8 ?_;refine zU 12 xk rfl rfl ?_;exact zB3);(· (refine r8 xk rfl rfl ?_);refine q8 ?_;refine zU 3 xk rfl rfl ?_;refine zK9 ?_;refine q8 ?_;refine zU 11 xk rfl rfl ?_;refine zK2 ?_;refine q8 ?_;refine zU 12 xk rfl rfl ?_;exact zB3)))
 generalize cs.getD c coZ=q;obtain⟨⟨u,v,_⟩,x,y,_⟩:=q;have hs:sprD d ((u,v,()),x,y,()) k=(u-k*d,v-k*d,()):=rfl;have ha:suB d ((u,v,()),x,y,()) k=decide (x≤u-k*d∧v-k*d≤y):=rfl;rw[hs,ha];generalize u-k*d=u;generalize v-k*d=v;refine zK0 ?_;refine zR rfl trivial ?_;by_cases e:x≤u<;>simp[e]
def fn32(d:Int)(ps:List (List Int))(ho:isO cs.length o):Ox.Fn Tryz.prog 32 (.acons (vG d cs ps) (.acons (vL o) .anil)) (·=vB true):=by
 refine Ox.Fn.intro xok Tryz.func32 rfl Tryz.call32 (yyc rfl) (fun E M0 up=>?_);refine JK.start ?_;refine JK.lenOf 1 rfl fun ha=>?_;replace ha:o.length≤9223372036854775807:=ha.1;have hg:=ho.len;obtain⟨b,hb⟩:∃ b,b=true:=⟨true,rfl⟩;have c52:∀ i,i<o.length→Ox.Fn Tryz.prog 23 (.acons (vG d cs ps) (.acons (vI (o.getD i 0)) .anil)) (·=vB b):=fun i hi=>by have:=fn23 d cs ps (o.getD i 0);rw[decide_eq_true (ho.get hi),← hb] at this;exact this
 have hh:∀ k i,k<i→i<o.length→o.getD k 0≠o.getD i 0:=fun k i h1 h2 e=>by have hn:=(z0s ho).2.2.1;rw[yyk,yyk,yyl h2,yyl (show k<o.length by omega)] at e;have:=(List.getElem_inj hn).1 (show o[k]=o[i] from e);omega
 refine zK0 ?_;refine q9 rfl (fun hc=>absurd hc (by simp[hg])) (fun _=>?_);refine zK0 ?_;refine JK.loop (fun i:Nat=>⟨[(1,vL o),(2,.lf (.optr 0 [])),(5,vI (i:Int))],[(0,.cell glT (vG d cs ps))],1⟩) (fun i=>i≤o.length) (fun i=>o.length-i) 0 (yyu _) (by exact zJ) fun i hi=>?_;refine zK0 ?_;refine q9 rfl (fun hc=>?_) (fun hc=>?_)
 ·replace hc:=zC hc;have he:i<o.length:=by omega
  have c52:=c52 i he;refine zK1 ?_;refine y5 xk (Tryz.f32.body.getD .skip) ⟨[(1,vL o),(2,.lf (.optr 0 [])),(5,vI (i:Int)),(25,vB (!b))],[(0,.cell glT (vG d cs ps))],1⟩ rfl 7 rfl ?_ ?_
  ·(refine q7 1 xk rfl rfl (q7 2 xk rfl rfl (q7 3 xk rfl rfl (z7 0 xk rfl rfl (z7 4 xk rfl rfl (zU 5 xk rfl rfl ?_)))));(first|refine q85 rfl (c52) rfl trivial rfl ?_|(refine q86 rfl (c52) rfl (fun r hr=>?_);subst hr));refine q8 ?_;refine q7 6 xk rfl rfl ?_;refine v6 xk StF.nil ?_;(exact zJ))
  rw[hb];refine q9 rfl (fun h=>by cases h) (fun _=>?_);refine zK0 ?_;refine JK.loop (fun k:Nat=>⟨[(1,vL o),(2,.lf (.optr 0 [])),(5,vI (i:Int)),(6,vI (k:Int))],[(0,.cell glT (vG d cs ps))],1⟩) (fun k=>k≤i) (fun k=>i-k) 0 (yyu _) (by exact zJ) fun k hk=>?_;refine zK0 ?_;refine q9 rfl (fun hd=>?_) (fun hd=>?_)
  ·replace hd:=zC hd;have hj:=hh k i (by omega) he;refine zK1 ?_;refine y5 xk (Tryz.f32.body.getD .skip) ⟨[(1,vL o),(2,.lf (.optr 0 [])),(5,vI (i:Int)),(6,vI (k:Int)),(39,vB (o.getD k 0==o.getD i 0))],[(0,.cell glT (vG d cs ps))],1⟩ rfl 9 rfl ?_ ?_
   ·(refine q7 0 xk rfl rfl (q7 1 xk rfl rfl (q7 2 xk rfl rfl (q7 4 xk rfl rfl (q7 5 xk rfl rfl (q7 6 xk rfl rfl (z7 3 xk rfl rfl (z7 7 xk rfl rfl (z7 8 xk rfl rfl ?_))))))));refine v6 xk ?_ ?_;exact zS;(exact zJ))
   refine q9 rfl (fun h=>absurd (eq_of_beq h) hj) (fun _=>?_);refine zK0 ?_;exact⟨k+1,by exact zJ,by omega,by omega⟩
  ·replace hd:=zC hd;refine zK0 ?_;exact⟨i+1,by exact zJ,by omega,by omega⟩
 ·replace hc:=zC hc;refine zK0 ?_;refine zR rfl trivial ?_;rfl
def fn14{ps:List (List Int)}(h:VG d cs ps)(ho:isO cs.length o):Ox.Fn Tryz.prog 14 (.acons (vG d cs ps) (.acons (vL o) .anil)) (·=vI (cheG d cs ps o)):=by
 refine Ox.Fn.intro xok Tryz.func14 rfl Tryz.call14 (yyc rfl) (fun E M0 up=>?_);refine JK.start ?_;refine JK.lenOf 0 rfl fun hl=>?_;have h2:∀ p∈ps,p.length=2:=fun p h=>by obtain⟨i,hi,e⟩:=yxp.1 h;have h2:(ps.get ⟨i,hi⟩).length=2:=(hl.2.2.1.2 i hi).1;rw[← e];exact h2
 clear hl;have hz:=ho.len;have hy:=h.n10;have c23:=fn8v h;have c30:=fn32 d ps ho;have hE:cheG d cs ps o=if sufB d cs o o.length=true then(if rulB ps o=true then 0 else 16) else 21:=rfl;have hh:=fun i q=>ho.get (i:=i) q;have c31:∀ i,i<o.length→Ox.Fn Tryz.prog 33 (.acons (vG d cs ps) (.acons (vI (o.getD i 0)) (.acons (vI (i:Int)) .anil))) (·=vB (suB d (cs.getD (o.getD i 0).toNat coZ) i)):=fun i hi=>by have hg:=hh i hi;have:=fn33 h (c:=(o.getD i 0).toNat) (k:=(i:Int)) (by omega) (by omega) (by omega);rw[show(((o.getD i 0).toNat:Nat):Int)=o.getD i 0 by omega] at this;exact this
 have c32:∀ i k,i<o.length→k<o.length→Ox.Fn Tryz.prog 34 (.acons (vG d cs ps) (.acons (vI (o.getD i 0)) (.acons (vI (o.getD k 0)) .anil))) (·=vB (pG ps (o.getD i 0).toNat (o.getD k 0).toNat)):=fun i k hi hk=>by have hg:=hh i hi;have hA:=hh k hk;have:=fn34 d cs ps (o.getD i 0) (o.getD k 0);rw[← show(((o.getD i 0).toNat:Nat):Int)=o.getD i 0 by omega,← show(((o.getD k 0).toNat:Nat):Int)=o.getD k 0 by omega,pr_mem h2 h.pr] at this;rw[show(((o.getD i 0).toNat:Nat):Int)=o.getD i 0 by omega,show(((o.getD k 0).toNat:Nat):Int)=o.getD k 0 by omega] at this;exact this
 obtain⟨z,hzz⟩:∃ z:Int,z=0:=⟨0,rfl⟩;rw[← hzz] at c23;obtain⟨b,hb⟩:∃ b,b=true:=⟨true,rfl⟩;rw[← hb] at c30
 (repeat (first|refine zs rfl ?_|refine zc rfl (c23) rfl rfl ?_))
 refine q9 rfl (fun hc=>absurd hc (by simp[hzz])) (fun _=>?_)
 (repeat (first|refine zs rfl ?_|refine zc rfl (c30) rfl rfl ?_))
 rw[hb];refine q9 rfl (fun h=>by cases h) (fun _=>?_);refine zK0 ?_;refine JK.loop (fun i:Nat=>⟨[(1,vL o),(2,.lf (.optr 0 [])),(5,vI (i:Int))],[(0,.cell glT (vG d cs ps))],1⟩) (fun i=>i≤o.length∧sufB d cs o i=true) (fun i=>o.length-i) 0 ⟨yyu _,by simp[sufB]⟩ (by exact zJ) fun i ⟨hi,hs⟩=>?_;have hu:=z2b (d:=d) (cs:=cs) o i;have ha:=fun q:i+1≤o.length=>z2c (d:=d) (cs:=cs) (o:=o) q;refine zK0 ?_;refine q9 rfl (fun hc=>?_) (fun hc=>?_)
 ·replace hc:=zC hc;have hv:i<o.length:=by omega
  have c31:=c31 i hv;generalize suB d (cs.getD (o.getD i 0).toNat coZ) (i:Int)=b at c31 hu;refine zK1 ?_;refine y5 xk (Tryz.f14.body.getD .skip) ⟨[(1,vL o),(2,.lf (.optr 0 [])),(5,vI (i:Int)),(30,vB (!b))],[(0,.cell glT (vG d cs ps))],1⟩ rfl 8 rfl ?_ ?_
  ·(refine q7 1 xk rfl rfl (q7 2 xk rfl rfl (q7 3 xk rfl rfl (q7 5 xk rfl rfl (z7 0 xk rfl rfl (z7 4 xk rfl rfl (zU 6 xk rfl rfl ?_))))));(first|refine q85 rfl (c31) rfl trivial rfl ?_|(refine q86 rfl (c31) rfl (fun r hr=>?_);subst hr));refine q8 ?_;refine q7 7 xk rfl rfl ?_;refine v6 xk StF.nil ?_;(exact zJ))
  refine q9 rfl (fun hd=>?_) (fun hd=>?_)
  ·refine zK0 ?_;refine zR rfl trivial ?_;rw[hE,if_neg fun k=>?_];have:=ha (by omega) k;rw[hu,hs] at this;rw[show b=true from by simpa using this] at hd;cases hd
  ·refine zK0 ?_;refine⟨i+1,by exact zJ,⟨by omega,?_⟩,by omega⟩;rw[hu,hs];simpa using hd
 replace hc:=zC hc;have hw:sufB d cs o o.length=true:=by rw[show o.length=i by omega];exact hs
 rw[if_pos hw] at hE;clear hw hs hu ha hc hi c31;have hR:rulB ps o=true↔∀ i k,k<i→i<o.length→pG ps (o.getD i 0).toNat (o.getD k 0).toNat=false:=by
  unfold rulB;rw[yyr,yx1];simp only[yxh,List.getElem_map];constructor
  ·intro hp i k h1 h2;have:=hp k i (by omega) h2 h1;rw[yyk,yyk,yyl h2,yyl (show k<o.length by omega)];exact this
  ·intro hp k i h1 h2 h3;have:=hp i k h3 h2;rw[yyk,yyk,yyl h2,yyl (show k<o.length by omega)] at this;exact this
 refine zK0 ?_;refine JK.loop (fun i:Nat=>⟨[(1,vL o),(2,.lf (.optr 0 [])),(6,vI (i:Int))],[(0,.cell glT (vG d cs ps))],1⟩) (fun i=>i≤o.length∧∀ j k,k<j→j<i→pG ps (o.getD j 0).toNat (o.getD k 0).toNat=false) (fun i=>o.length-i) 0 ⟨yyu _,fun j k _ h=>absurd h (Nat.not_lt_zero j)⟩ (by exact zJ) fun i ⟨hi,hn⟩=>?_;refine zK0 ?_;refine q9 rfl (fun hc=>?_) (fun hc=>?_)
 ·replace hc:=zC hc;have hv:i<o.length:=by omega
  refine zK0 ?_;refine JK.loop (fun k:Nat=>⟨[(1,vL o),(2,.lf (.optr 0 [])),(6,vI (i:Int)),(7,vI (k:Int))],[(0,.cell glT (vG d cs ps))],1⟩) (fun k=>k≤i∧∀ j,j<k→pG ps (o.getD i 0).toNat (o.getD j 0).toNat=false) (fun k=>i-k) 0 ⟨yyu _,fun j h=>absurd h (Nat.not_lt_zero j)⟩ (by exact zJ) fun k ⟨hk,hm⟩=>?_;refine zK0 ?_;refine q9 rfl (fun hd=>?_) (fun hd=>?_)
  ·replace hd:=zC hd;have c32:=c32 i k hv (by omega);generalize hq:pG ps (o.getD i 0).toNat (o.getD k 0).toNat=q at c32;refine zK1 ?_;refine y5 xk (Tryz.f14.body.getD .skip) ⟨[(1,vL o),(2,.lf (.optr 0 [])),(6,vI (i:Int)),(7,vI (k:Int)),(51,vB q)],[(0,.cell glT (vG d cs ps))],1⟩ rfl 10 rfl ?_ ?_
   ·(refine q7 1 xk rfl rfl (q7 2 xk rfl rfl (q7 3 xk rfl rfl (q7 5 xk rfl rfl (q7 6 xk rfl rfl (q7 7 xk rfl rfl (z7 0 xk rfl rfl (z7 4 xk rfl rfl (z7 8 xk rfl rfl (zU 9 xk rfl rfl ?_)))))))));(first|refine q85 rfl (c32) rfl trivial rfl ?_|(refine q86 rfl (c32) rfl (fun r hr=>?_);subst hr));refine q8 ?_;refine v6 xk StF.nil ?_;(exact zJ))
   refine q9 rfl (fun he=>?_) (fun he=>?_)
   ·refine zK0 ?_;refine zR rfl trivial ?_;rw[hE,if_neg fun w=>?_];have:=hR.1 w i k (by omega) hv;rw[hq,he] at this;cases this
   ·refine zK0 ?_;refine⟨k+1,by exact zJ,⟨by omega,fun j hj=>?_⟩,by omega⟩;rcases Nat.lt_succ_iff_lt_or_eq.1 hj with h|rfl
    ·exact hm j h
    ·rw[hq];exact he
  ·replace hd:=zC hd;have hB:k=i:=by omega
   refine zK0 ?_;refine⟨i+1,by exact zJ,⟨by omega,fun j k2 h1 h2=>?_⟩,by omega⟩;rcases Nat.lt_succ_iff_lt_or_eq.1 h2 with h|rfl
   ·exact hn j k2 h1 h
   ·exact hm k2 (by omega)
 ·replace hc:=zC hc;refine zK0 ?_;refine zR rfl trivial ?_;rw[hE,if_pos];exact hR.2 fun j k h1 h2=>hn j k h1 (by omega)
end Go.Proofs.YtcijjbccigbflaaGreatDoor.Ga
namespace Ox
open Go Go.RowKit Ox.Rn
def z14{Z:Mem→Prop}{P:Program}{r:AV}(hr:r.scal=true)(h:FnL Z P f .anil (·=r)):FnZ Z P f r.toV where
 call:=h.call
 run:=fun M w hz hM=>by
  let ρ:Env:=⟨fun _=>0,fun _=>.bool,fun _=>Go.undef⟩
  refine(h.run M ρ w [] hz hM (by simp only[AV.rvs]) trivial).mono ?_;rintro e w' ⟨v,r',M',rfl,rfl,_,hv,ha,_⟩;exact⟨by rw[(x3 hr).1 hv],ha⟩
end Ox
