/- Texts of the proof of the statement that the last text proves. -/
import Derived.Test.YtjmhhehhfeengaaGreatDoorPqb
import Derived.Test.YtjmhhehhfeengaaGreatDoorProg
import Init
import Derived.LoopNIn
set_option linter.all false
set_option maxHeartbeats 2000000
variable{cs1 cs2:List Prop}{Q R:List (Nat×List Nat)}{a r s z:Int}{sv v:Go.Value}{o row:List Nat}{N d h i j l m n off p q u:Nat}{x y:Go.Operand}{f:Nat→Int}{et kt t ty:Go.TypeId}{empty ok:Bool}{k:Go.IntKind}{cs:Array Go.Value}{b c:Nat×List Nat}{af:Array Go.Edge}
namespace Ox
open Go Go.RowKit
variable {X:Ctx}{s:S}{M:Mem}{ρ:Env}{a:Act}{w w':World}{QA:Exit→S→Prop}{all l:List Oper}{md:Bool}
variable {L L':List (Nat×AV)}{H H':List (Nat×HO)}{nx nx':Nat}
def subL(L:List (Nat×AV)):List (Nat×AV)→Prop
 |[]=>True
 |(d,v)::r=>lk L d=some v∧subL L r
def z2x:∀ {r:List (Nat×AV)},subL L r→∀ d v,lk r d=some v→lk L d=some v
 |[],_,d,v,h=>by simp[lk] at h
 |(k,u)::r,hc,d,v,h=>by
  simp only[lk] at h;by_cases e:k=d
  ·subst e;rw[if_pos rfl] at h;injection h with h;subst h;exact hc.1
  ·rw[if_neg e] at h;exact z2x hc.2 d v h
def subH(H H':List (Nat×HO)):Prop:=∀ m o,lk H' m=some o→lk H m=some o
def JW.refl(s:S):JW X s s:=fun M ρ a w h1 h2=>⟨ρ,h1,h2⟩
def JW.trans{s1 s2 s3:S}(h:JW X s1 s2)(k:JW X s2 s3):JW X s1 s3:=fun M ρ a w h1 h2=>by obtain⟨ρ1,e1,e2⟩:=k M ρ a w h1 h2;exact h M ρ1 a w e1 e2
section
variable {r:List Fr}{eid:TypeId}{e t:Ty}{xs:List e.den}{x:t.den}{c:Code}
end
variable{r:List Fr}
def JK.weakO{s s':S}(h:JW X s' s)(k:JK X (.ops true all l::r) QA s'):JK X (.ops true all l::r) QA s:=q56 h k
def FO.args{f:FuncId}{az az':AV}{Q:AV→List (Nat×HO)→Nat→Prop}(h:FO X f az H nx Q)(hb:az.bd nx)(hr:∀ M ρ vs,az'.rvs M ρ vs→az.rvs M ρ vs):FO X f az' H nx Q:=fun M0 M ρ w vs hS _ hvs=>h M0 M ρ w vs hS hb (hr M ρ vs hvs)
def JK.inl{r:List Fr}{d:Nat}{ty:TypeId}{ps:String}{af:Array Edge}(Kp:List Nat){f:FuncId}{fn:Func}{c:Code}{fst cap az:AV}{cs1 cs2:List Prop}{fo:Operand}{args:Array Operand}{tys:Array TypeId}
  (hu:opd L fo=some (cs1,.fn f fst cap)) (ha:opds L args.toList=some (cs2,az)) (hc:allP (cs1++cs2)) (hf:X.P.funcs[f]?=some fn) (hb:fn.body=some c) (hcall:∀ az w,(callFunc f az).run X.P w=.ok (.enter f az) w)
  (hn:argN (apA fst (apA az cap))≤fn.ntmps) (hd:ltB d X.n=true)
  (h:∀ M0 up,JK (X.sub M0 fn.ntmps none up) [.code c] (inlQ X fn.results.toList fun v L H nx=>JK X (.ops true all l::r) QA ⟨(d,v)::L,H,nx⟩) ⟨argL (apA fst (apA az cap)) 0,(nx,.fr X.dp (svL L Kp))::H,nx+1⟩) :
  JK X (.ops true all (⟨some d,.call {callee:=.value fo,args:=args,argTypes:=tys},ty,ps,af,none⟩::l)::r) QA ⟨L,H,nx⟩:=
 JL.inl (s:=⟨L,H,nx⟩) Kp rfl rfl hu ha hc hf hb hcall hn (y6 hd) h
def blkF(id:Nat):Code→Option Code
 |.block j c=>if j=id then some (.block j c) else blkF id c
 |.seq a b=>match blkF id a with|some r=>some r|none=>blkF id b
 |.loop c|.scope c=>blkF id c
 |.cond _ a b=>match blkF id a with|some r=>some r|none=>blkF id b
 |.rangeFunc _ _ a b=>match blkF id a with|some r=>some r|none=>blkF id b
 |_=>none
def subH.cons{o:HO}(h:subH H H')(hb:bdH n H')(hm:n≤m):subH ((m,o)::H) H':=fun j q hj=>by simp only[lk];rw[if_neg (fun e=>by subst e;have:=(q7x hb _ _ (p6 hj)).1;omega)];exact h j q hj
def subH.dl(h:subH H H')(hb:bdH n H')(hm:n≤m):subH (del H m) H':=fun j q hj=>by rw[q67,if_neg (fun e=>by subst e;have:=(q7x hb _ _ (p6 hj)).1;omega)];exact h j q hj
variable{c:Operand}{b:Bool}
def z77{v:AV}{ps:String}(hc:opd L c=some (cs1,.val .bool b))(hb:b=true)(hx:opd L x=some (cs2,v))(hd:ltB d X.n=true)(h1:allP cs1)(h2:allP cs2)(k:JK X (.ops true all l::r) QA ⟨(d,v)::L,H,nx⟩) :
  JK X (.ops true all (⟨some d,.pick c x y,ty,ps,af,none⟩::l)::r) QA ⟨L,H,nx⟩:=JL.pickT hc hb hx hd h1 h2 k
def z78{v:AV}{ps:String}(hc:opd L c=some (cs1,.val .bool b))(hb:b=false)(hy:opd L y=some (cs2,v))(hd:ltB d X.n=true)(h1:allP cs1)(h2:allP cs2)(k:JK X (.ops true all l::r) QA ⟨(d,v)::L,H,nx⟩) :
  JK X (.ops true all (⟨some d,.pick c x y,ty,ps,af,none⟩::l)::r) QA ⟨L,H,nx⟩:=JL.pickF hc hb hy hd h1 h2 k
def lpF:Code→Option Code
 |.loop c=>some (.loop c)
 |.block _ c|.scope c=>lpF c
 |.seq a b=>match lpF a with|some r=>some r|none=>lpF b
 |.cond _ a b=>match lpF a with|some r=>some r|none=>lpF b
 |.rangeFunc _ _ a b=>match lpF a with|some r=>some r|none=>lpF b
 |_=>none
def lpC(c:Option Code):Code:=match c with|some c=>(lpF c).getD .skip|none=>.skip
end Ox
namespace Go.Proofs.YtjmhhehhfeengaaGreatDoor
open Go Go.RowKit Ox
def tys:List (Nat×Ty):=[
 (2,(.int .i64)),
 (3,(.int .i64)),
 (4,.bool),
 (5,(.int .u8)),
 (6,(.int .u8)),
 (7,(.cons (.int .i64) (.cons (.int .i64) (.cons .bool (.cons (.int .u8) .nil))))),
 (8,(.cons (.int .i64) (.cons (.int .i64) (.cons .bool (.cons (.int .u8) .nil))))),
 (12,(.int .u64)),
 (21,(.int .i32)),
 (22,(.slice (.cons (.int .i64) (.cons (.slice (.cons (.int .i64) (.cons (.int .i64) .nil))) .nil)))),
 (23,(.slice (.arr 2 (.int .u8)))),
 (24,(.slice (.int .u8))),
 (26,(.slice (.int .i64))),
 (27,(.slice (.cons (.int .i64) (.cons (.int .i64) .nil)))),
 (28,(.cons (.int .i64) (.cons (.slice (.cons (.int .i64) (.cons (.int .i64) .nil))) .nil))),
 (29,(.cons (.int .i64) (.cons (.slice (.cons (.int .i64) (.cons (.int .i64) .nil))) .nil))),
 (30,(.int .i64)),
 (32,(.slice (.int .i64))),
 (41,(.slice (.cons (.int .i64) (.cons (.int .i64) (.cons (.int .i64) .nil))))),
 (45,(.cons (.int .i64) (.cons (.int .i64) .nil))),
 (46,(.cons (.int .i64) (.cons (.int .i64) .nil))),
 (47,(.ptr (.cons (.cons (.int .i64) (.cons (.slice (.cons (.int .i64) (.cons (.int .i64) .nil))) .nil)) (.cons (.arr 1000 (.int .i64)) (.cons (.int .i64) (.cons (.arr 1000 (.int .i64)) .nil)))))),
 (52,(.arr 1000 (.int .i64))),
 (53,(.arr 1000 (.int .i64))),
 (54,(.arr 1000 (.int .i64))),
 (55,(.cons (.cons (.int .i64) (.cons (.slice (.cons (.int .i64) (.cons (.int .i64) .nil))) .nil)) (.cons (.arr 1000 (.int .i64)) (.cons (.int .i64) (.cons (.arr 1000 (.int .i64)) .nil))))),
 (56,(.cons (.cons (.int .i64) (.cons (.slice (.cons (.int .i64) (.cons (.int .i64) .nil))) .nil)) (.cons (.arr 1000 (.int .i64)) (.cons (.int .i64) (.cons (.arr 1000 (.int .i64)) .nil))))),
 (66,(.arr 2 (.int .u8))),
 (67,(.cons (.int .i64) (.cons (.int .i64) (.cons (.int .i64) .nil)))),
 (68,(.cons (.int .i64) (.cons (.int .i64) (.cons (.int .i64) .nil)))),
 (75,(.cons (.slice (.int .i64)) (.cons .bool .nil))),
 (76,(.cons (.slice (.int .i64)) (.cons .bool .nil))),
 (90,(.cons (.int .i64) (.cons (.int .i64) .nil))),
 (91,(.cons (.int .i64) (.cons (.int .i64) .nil))),
 (93,(.cons (.int .i64) (.cons (.int .i64) (.cons (.int .i64) .nil)))),
 (94,(.cons (.int .i64) (.cons (.int .i64) (.cons (.int .i64) .nil)))),
 (98,(.ptr (.cons (.cons (.slice (.cons (.int .i64) (.cons (.int .i64) (.cons (.int .i64) .nil)))) (.cons (.int .i64) .nil)) (.cons (.int .i64) .nil)))),
 (99,(.slice (.cons (.int .i64) (.cons (.int .i64) (.cons (.int .i64) .nil))))),
 (102,(.cons (.int .i64) (.cons (.int .i64) (.cons (.int .i64) .nil)))),
 (103,(.cons (.int .i64) (.cons (.int .i64) (.cons (.int .i64) .nil)))),
 (106,(.cons (.slice (.cons (.int .i64) (.cons (.int .i64) (.cons (.int .i64) .nil)))) (.cons (.int .i64) .nil))),
 (107,(.cons (.slice (.cons (.int .i64) (.cons (.int .i64) (.cons (.int .i64) .nil)))) (.cons (.int .i64) .nil))),
 (108,(.cons (.cons (.slice (.cons (.int .i64) (.cons (.int .i64) (.cons (.int .i64) .nil)))) (.cons (.int .i64) .nil)) (.cons (.int .i64) .nil))),
 (109,(.cons (.cons (.slice (.cons (.int .i64) (.cons (.int .i64) (.cons (.int .i64) .nil)))) (.cons (.int .i64) .nil)) (.cons (.int .i64) .nil))),
 (112,(.slice (.cons (.cons (.int .i64) (.cons (.int .i64) .nil)) (.cons (.int .i64) (.cons (.int .i64) .nil))))),
 (113,(.slice (.arr 2 (.int .i64)))),
 (114,(.cons (.int .i64) (.cons (.slice (.cons (.cons (.int .i64) (.cons (.int .i64) .nil)) (.cons (.int .i64) (.cons (.int .i64) .nil)))) (.cons (.slice (.arr 2 (.int .i64))) .nil)))),
 (115,(.cons (.int .i64) (.cons (.slice (.cons (.cons (.int .i64) (.cons (.int .i64) .nil)) (.cons (.int .i64) (.cons (.int .i64) .nil)))) (.cons (.slice (.arr 2 (.int .i64))) .nil)))),
 (117,(.cons (.int .i64) (.cons (.int .i64) .nil))),
 (118,(.cons (.int .i64) (.cons (.int .i64) .nil))),
 (124,(.cons (.int .i64) (.cons (.int .i64) (.cons (.slice (.int .i64)) .nil)))),
 (125,(.cons (.int .i64) (.cons (.int .i64) (.cons (.slice (.int .i64)) .nil)))),
 (137,(.arr 8 (.int .i64))),
 (138,(.arr 8 (.int .i64))),
 (140,(.slice .bool)),
 (159,(.cons (.int .i64) (.cons (.int .i64) (.cons (.int .i64) .nil)))),
 (160,(.cons (.int .i64) (.cons (.int .i64) (.cons (.int .i64) .nil)))),
 (172,(.slice (.slice (.int .i64)))),
 (183,(.cons (.cons (.int .i64) (.cons (.int .i64) .nil)) (.cons (.int .i64) (.cons (.int .i64) .nil)))),
 (184,(.cons (.cons (.int .i64) (.cons (.int .i64) .nil)) (.cons (.int .i64) (.cons (.int .i64) .nil)))),
 (186,(.arr 2 (.int .i64))),
 (187,(.ptr (.cons (.cons (.int .i64) (.cons (.slice (.cons (.cons (.int .i64) (.cons (.int .i64) .nil)) (.cons (.int .i64) (.cons (.int .i64) .nil)))) (.cons (.slice (.arr 2 (.int .i64))) .nil))) (.cons (.arr 10 (.cons (.int .i64) (.cons (.int .i64) .nil))) (.cons (.arr 10 (.int .u64)) .nil))))),
 (192,(.arr 10 (.cons (.int .i64) (.cons (.int .i64) .nil)))),
 (193,(.arr 10 (.cons (.int .i64) (.cons (.int .i64) .nil)))),
 (194,(.int .u64)),
 (195,(.int .u64)),
 (196,(.arr 10 (.int .u64))),
 (197,(.arr 10 (.int .u64))),
 (198,(.cons (.cons (.int .i64) (.cons (.slice (.cons (.cons (.int .i64) (.cons (.int .i64) .nil)) (.cons (.int .i64) (.cons (.int .i64) .nil)))) (.cons (.slice (.arr 2 (.int .i64))) .nil))) (.cons (.arr 10 (.cons (.int .i64) (.cons (.int .i64) .nil))) (.cons (.arr 10 (.int .u64)) .nil)))),
 (199,(.cons (.cons (.int .i64) (.cons (.slice (.cons (.cons (.int .i64) (.cons (.int .i64) .nil)) (.cons (.int .i64) (.cons (.int .i64) .nil)))) (.cons (.slice (.arr 2 (.int .i64))) .nil))) (.cons (.arr 10 (.cons (.int .i64) (.cons (.int .i64) .nil))) (.cons (.arr 10 (.int .u64)) .nil)))),
 (221,(.slice (.cons (.int .i64) (.cons (.int .i64) .nil)))),
 (222,(.slice (.cons (.int .i64) (.cons (.cons (.int .i64) (.cons (.int .i64) .nil)) .nil)))),
 (223,(.cons (.int .i64) (.cons (.slice (.cons (.int .i64) (.cons (.int .i64) .nil))) (.cons (.slice (.cons (.int .i64) (.cons (.cons (.int .i64) (.cons (.int .i64) .nil)) .nil))) .nil)))),
 (224,(.cons (.int .i64) (.cons (.slice (.cons (.int .i64) (.cons (.int .i64) .nil))) (.cons (.slice (.cons (.int .i64) (.cons (.cons (.int .i64) (.cons (.int .i64) .nil)) .nil))) .nil)))),
 (234,(.cons (.int .i64) (.cons (.slice (.arr 2 (.int .i64))) .nil))),
 (235,(.cons (.int .i64) (.cons (.slice (.arr 2 (.int .i64))) .nil))),
 (240,(.cons (.int .i64) (.cons (.int .i64) (.cons (.int .i64) .nil)))),
 (241,(.cons (.int .i64) (.cons (.int .i64) (.cons (.int .i64) .nil)))),
 (243,(.slice (.cons (.int .i64) (.cons (.int .i64) (.cons (.int .i64) .nil))))),
 (250,(.slice (.cons (.int .i64) (.cons (.int .i64) .nil)))),
 (251,(.slice (.cons (.int .i64) (.cons (.int .i64) .nil)))),
 (252,(.cons (.slice (.cons (.int .i64) (.cons (.int .i64) .nil))) (.cons (.slice (.cons (.int .i64) (.cons (.int .i64) .nil))) .nil))),
 (253,(.cons (.slice (.cons (.int .i64) (.cons (.int .i64) .nil))) (.cons (.slice (.cons (.int .i64) (.cons (.int .i64) .nil))) .nil))),
 (256,(.cons (.int .i64) (.cons (.int .i64) .nil))),
 (257,(.cons (.int .i64) (.cons (.int .i64) .nil))),
 (261,(.slice (.cons (.int .i64) (.cons (.int .i64) .nil)))),
 (269,(.slice (.cons (.int .i64) (.cons (.cons (.int .i64) (.cons (.int .i64) .nil)) .nil)))),
 (272,(.cons (.int .i64) (.cons (.cons (.int .i64) (.cons (.int .i64) .nil)) .nil))),
 (273,(.cons (.int .i64) (.cons (.cons (.int .i64) (.cons (.int .i64) .nil)) .nil))),
 (282,(.slice (.int .u64))),
 (287,(.cons (.int .i64) (.cons (.int .i64) .nil))),
 (288,(.cons (.int .i64) (.cons (.int .i64) .nil))),
 (290,(.cons (.int .i64) (.cons (.cons (.int .i64) (.cons (.int .i64) .nil)) .nil))),
 (291,(.cons (.int .i64) (.cons (.cons (.int .i64) (.cons (.int .i64) .nil)) .nil))),
 (293,(.ptr (.cons (.cons (.int .i64) (.cons (.slice (.cons (.int .i64) (.cons (.int .i64) .nil))) (.cons (.slice (.cons (.int .i64) (.cons (.cons (.int .i64) (.cons (.int .i64) .nil)) .nil))) .nil))) (.cons (.slice (.cons (.int .i64) (.cons (.int .i64) .nil))) (.cons (.arr 12 (.arr 12 (.int .i64))) .nil))))),
 (296,(.arr 12 (.int .i64))),
 (297,(.arr 12 (.int .i64))),
 (298,(.arr 12 (.arr 12 (.int .i64)))),
 (299,(.cons (.cons (.int .i64) (.cons (.slice (.cons (.int .i64) (.cons (.int .i64) .nil))) (.cons (.slice (.cons (.int .i64) (.cons (.cons (.int .i64) (.cons (.int .i64) .nil)) .nil))) .nil))) (.cons (.slice (.cons (.int .i64) (.cons (.int .i64) .nil))) (.cons (.arr 12 (.arr 12 (.int .i64))) .nil)))),
 (300,(.cons (.cons (.int .i64) (.cons (.slice (.cons (.int .i64) (.cons (.int .i64) .nil))) (.cons (.slice (.cons (.int .i64) (.cons (.cons (.int .i64) (.cons (.int .i64) .nil)) .nil))) .nil))) (.cons (.slice (.cons (.int .i64) (.cons (.int .i64) .nil))) (.cons (.arr 12 (.arr 12 (.int .i64))) .nil)))),
 (311,(.ptr (.cons (.cons (.int .i64) (.cons (.slice (.arr 2 (.int .i64))) .nil)) (.cons (.arr 8 (.arr 8 (.int .i64))) .nil)))),
 (316,(.ptr (.cons (.ptr (.cons (.cons (.int .i64) (.cons (.slice (.arr 2 (.int .i64))) .nil)) (.cons (.arr 8 (.arr 8 (.int .i64))) .nil))) (.cons (.arr 8 (.slice (.int .i64))) .nil)))),
 (327,(.cons (.int .i64) (.cons (.int .i64) .nil))),
 (328,(.cons (.int .i64) (.cons (.int .i64) .nil))),
 (333,(.int .u64)),
 (345,(.ptr (.arr 4096 (.int .i64)))),
 (364,(.int .u32)),
 (366,(.int .u64)),
 (371,(.ptr (.cons (.int .i64) (.cons (.int .i64) .nil)))),
 (374,(.cons (.int .i64) .nil)),
 (375,(.cons (.int .i64) .nil)),
 (379,(.arr 8 (.int .i64))),
 (380,(.arr 8 (.arr 8 (.int .i64)))),
 (381,(.cons (.cons (.int .i64) (.cons (.slice (.arr 2 (.int .i64))) .nil)) (.cons (.arr 8 (.arr 8 (.int .i64))) .nil))),
 (382,(.cons (.cons (.int .i64) (.cons (.slice (.arr 2 (.int .i64))) .nil)) (.cons (.arr 8 (.arr 8 (.int .i64))) .nil))),
 (385,(.arr 8 (.slice (.int .i64)))),
 (386,(.cons (.ptr (.cons (.cons (.int .i64) (.cons (.slice (.arr 2 (.int .i64))) .nil)) (.cons (.arr 8 (.arr 8 (.int .i64))) .nil))) (.cons (.arr 8 (.slice (.int .i64))) .nil))),
 (387,(.cons (.ptr (.cons (.cons (.int .i64) (.cons (.slice (.arr 2 (.int .i64))) .nil)) (.cons (.arr 8 (.arr 8 (.int .i64))) .nil))) (.cons (.arr 8 (.slice (.int .i64))) .nil))),
 (388,(.cons (.int .i64) .nil)),
 (389,(.cons (.int .i64) .nil)),
 (401,(.slice (.int .u64))),
 (404,(.slice (.arr 4096 (.int .i64)))),
 (405,(.arr 4096 (.int .i64))),
 (406,(.arr 4096 (.int .i64))),
 (407,(.arr 4096 (.int .i64))),
 (408,(.arr 4096 (.int .i64))),
 (413,(.arr 32 (.int .u8))),
 (414,(.arr 64 (.int .u8))),
 (416,(.int .i64))]
def ets:List (Nat×Nat):=[(22,29),(23,66),(24,5),(26,2),(27,46),(32,3),(41,68),(99,103),(112,184),(113,186),(140,4),(172,32),(221,288),(222,291),(243,241),(250,328),(251,118),(261,257),(269,273),(282,195),(401,333),(404,406)]
def mts:List (Nat×(Nat×Nat)):=[(86,(91,94)),(213,(160,3)),(281,(195,2)),(351,(333,261)),(376,(375,3)),(390,(389,2))]
def tab:tabB Tryz.prog tys ets mts=true:=by decide +kernel
def xok{X:Ctx}(h1:X.P=Tryz.prog)(h2:X.T=tys)(h3:X.ET=ets)(h4:X.MT=mts):XOK X:=z9f tab h1 h2 h3 h4
def xk{E:World}{M0:Mem}{rd:Option Nat}{up:Nat→Nat→Value}{dp:Nat}:XOK ⟨Tryz.prog,tys,ets,mts,E,M0,n,rd,up,dp⟩:=xok rfl rfl rfl rfl
def u5:funB Tryz.prog 151=true:=by decide +kernel
def q4s:funB Tryz.prog 154=true:=by decide +kernel
end Go.Proofs.YtjmhhehhfeengaaGreatDoor
namespace Ox.Two
abbrev Ev:=List (Int×Int×Unit)
def isSay(n:Nat)(s:Int):Prop:=(1≤s∧s≤n)∨(-(n:Int)≤s∧s≤-1)
def valid(n:Nat)(ev:Ev):Prop:=∀ x∈ev,isSay n x.1∧isSay n x.2.1
def holds(v:Nat→Bool)(s:Int):Bool:=if s<0 then !v (-1-s).toNat else v (s-1).toNat
def Sat(ev:Ev)(v:Nat→Bool):Prop:=∀ x∈ev,holds v x.1=true∨holds v x.2.1=true
def Step(ev:Ev)(a b:Int):Prop:=∃ x∈ev,(x.1=-a∧x.2.1=b)∨(x.2.1=-a∧x.1=b)
inductive Ch(ev:Ev):Nat→Int→Int→Prop
 |nil (a:Int):Ch ev 0 a a
 |snoc {k:Nat} {a b c:Int}:Ch ev k a b→Step ev b c→Ch ev (k+1) a c
def Reach(ev:Ev)(a b:Int):Prop:=∃ k,Ch ev k a b
def isSay.neg(h:isSay n s):isSay n (-s):=by unfold isSay at *;omega
variable{ev:Ev}{b:Int}
def Step.say(hv:valid n ev)(h:Step ev a b):isSay n a∧isSay n b:=by
 obtain⟨x,hx,h|h⟩:=h
 ·have:=hv x hx;rw[h.1,h.2] at this;exact⟨by have:=this.1.neg;rwa[Int.neg_neg] at this,this.2⟩
 ·have:=hv x hx;rw[h.1,h.2] at this;exact⟨by have:=this.2.neg;rwa[Int.neg_neg] at this,this.1⟩
def Ch.cons{ev:Ev}{a b:Int}(h:Step ev a b):∀ {k:Nat} {c:Int},Ch ev k b c→Ch ev (k+1) a c
 |_,_,.nil _=>.snoc (.nil a) h
 |_,_,.snoc h1 h2=>.snoc (Ch.cons h h1) h2
def Ch.trans{ev:Ev}{a b c:Int}{k:Nat}(h:Ch ev k a b):∀ {m:Nat},Ch ev m b c→Ch ev (k+m) a c
 |_,.nil _=>h
 |_,.snoc h1 h2=>.snoc (Ch.trans h h1) h2
def Reach.trans{ev:Ev}{a b c:Int}(h:Reach ev a b)(k:Reach ev b c):Reach ev a c:=by obtain⟨i,h⟩:=h;obtain⟨j,k⟩:=k;exact⟨i+j,h.trans k⟩
def j2w(v:Nat→Bool)(h:isSay n s):holds v (-s)=!holds v s:=by
 unfold holds;unfold isSay at h;by_cases hs:s<0
 ·rw[if_neg (by omega),if_pos hs,Bool.not_not];congr 1;omega
 ·rw[if_pos (by omega),if_neg hs];congr 2;omega
def Sat.step{v:Nat→Bool}(hv:valid n ev)(h:Sat ev v)(hs:Step ev a b)(ha:holds v a=true):holds v b=true:=by
 have hsa:=(hs.say hv).1;have hn:=j2w v hsa;rw[ha] at hn;obtain⟨x,hx,e|e⟩:=hs
 ·have:=h x hx;rw[e.1,e.2,hn] at this;simpa using this
 ·have:=h x hx;rw[e.1,e.2,hn] at this;simpa using this
end Ox.Two
namespace Ox.Sh
open Ox
abbrev Sh:=Int×Int×Int×Unit
abbrev da(s:Sh):Int:=s.1
abbrev dr(s:Sh):Int:=s.2.1
abbrev dp(s:Sh):Int:=s.2.2.1
abbrev z0:Sh:=(0,0,0,())
def nx(l:List Sh)(p:Int×Int)(n:Nat):Int×Int:=(p.1+da (l.getD n z0),Max.max (p.1+da (l.getD n z0)+dr (l.getD n z0)) p.2+dp (l.getD n z0))
def endP(l:List Sh)(p:Int×Int)(o:List Nat):Int×Int:=o.foldl (nx l) p
def endS(l:List Sh)(p:Int×Int)(o:List Nat):Int:=(endP l p o).2
def q0u(l:List Sh)(p:Int×Int)(a b:List Nat):endP l p (a++b)=endP l (endP l p a) b:=List.foldl_append
def q0k(l:List Sh)(p:Int×Int)(n:Nat)(o:List Nat):endP l p (n::o)=endP l (nx l p n) o:=rfl
def q88{l:List Sh}:∀ (o:List Nat) {p q:Int×Int},p.1=q.1→p.2≤q.2→(endP l p o).1=(endP l q o).1∧(endP l p o).2≤(endP l q o).2
 |[],_,_,h,k=>⟨h,k⟩
 |n::o,p,q,h,k=>by
  rw[q0k,q0k];refine q88 o ?_ ?_
  ·unfold nx;dsimp only;omega
  ·unfold nx;dsimp only;omega
def al(s:Sh):Int:=da s+dr s
def be(s:Sh):Int:=dr s+dp s
def rankS(s:Sh):Int:=if da s≤dp s then al s else 1048576-be s
def okS(s:Sh):Prop:=0≤da s∧da s≤1000∧0≤dr s∧dr s≤1000∧0≤dp s∧dp s≤1000
def j0y{i j:Sh}(hi:okS i)(hj:okS j)(h:rankS i≤rankS j):Min.min (al i) (be j)≤Min.min (al j) (be i):=by unfold okS at hi hj;unfold rankS al be at *;split at h<;>split at h<;>omega
variable{l:List Sh}
def swap_le(p:Int×Int)(h:Min.min (al (l.getD i z0)) (be (l.getD j z0))≤Min.min (al (l.getD j z0)) (be (l.getD i z0))) :
  (endP l p [i,j]).1=(endP l p [j,i]).1∧(endP l p [i,j]).2≤(endP l p [j,i]).2:=by
 unfold al be at h;simp only[endP,List.foldl_cons,List.foldl_nil,nx];constructor
 ·omega
 ·omega
def okD(l:List Sh):Prop:=∀ s∈l,okS s
def okD.get(h:okD l)(n:Nat):okS (l.getD n z0):=by
 by_cases hn:n<l.length
 ·rw[yyj,yyo hn];exact h _ (yyv hn)
 ·rw[yyj,yxe (by omega)];exact⟨by decide,by decide,by decide,by decide,by decide,by decide⟩
def rk(l:List Sh)(n:Nat):Int:=rankS (l.getD n z0)
def z7c{l:List Sh}(hl:okD l){n:Nat}:∀ (u:List Nat),(∀ m∈u,rk l n≤rk l m)→∀ p:Int×Int,(endP l p (n::u)).1=(endP l p (u++[n])).1∧(endP l p (n::u)).2≤(endP l p (u++[n])).2
 |[],_,p=>⟨rfl,Int.le_refl _⟩
 |m::u,h,p=>by have h1:=swap_le (l:=l) (i:=n) (j:=m) p (j0y (hl.get n) (hl.get m) (h m yyg));have h2:=z7c hl u (fun k hk=>h k (yyh _ hk)) (nx l p m);have h3:=q88 (l:=l) u h1.1 h1.2;rw[← q0u,← q0u] at h3;have e1:[n,m]++u=n::m::u:=rfl;have e2:[m,n]++u=m::n::u:=rfl;rw[e1,e2,q0k l p m] at h3;rw[List.cons_append,q0k l p m (u++[n])];exact⟨h3.1.trans h2.1,Int.le_trans h3.2 h2.2⟩
def first_le(hl:okD l){u v:List Nat}(h:∀ m∈u,rk l n≤rk l m)(p:Int×Int):endS l p (n::(u++v))≤endS l p (u++n::v):=by have h1:=z7c hl u h p;have h2:=q88 (l:=l) v h1.1 h1.2;rw[← q0u,← q0u,yxb] at h2;exact h2.2
def leastG{α:Type}(f:α→Int)(b:α):List α→α
 |[]=>b
 |x::r=>leastG f (if f x<f b then x else b) r
def q00{α:Type}(f:α→Int):∀ (r:List α) (b:α),leastG f b r∈b::r∧(∀ x∈b::r,f (leastG f b r)≤f x)
 |[],b=>⟨yyg,fun x hx=>by rw[yyl.1 hx];exact Int.le_refl _⟩
 |x::r,b=>by
  rw[leastG];obtain⟨h1,h2⟩:=q00 f r (if f x<f b then x else b);generalize leastG f (if f x<f b then x else b) r=w at h1 h2 ⊢;refine⟨?_,fun y hy=>?_⟩
  ·rcases yyk.1 h1 with h|h
   ·rw[h];split
    ·exact yyh _ yyg
    ·exact yyg
   ·exact yyh _ (yyh _ h)
  ·have h3:=h2 _ yyg;rcases yyk.1 hy with rfl|hy
   ·split at h3<;>omega
   ·rcases yyk.1 hy with rfl|hy
    ·split at h3<;>omega
    ·exact h2 y (yyh _ hy)
def ruleF(l:List Sh):Nat→List Nat→List Nat
 |0,_=>[]
 |_+1,[]=>[]
 |f+1,b::r=>leastG (rk l) b r::ruleF l f ((b::r).filter fun k=>decide (k≠leastG (rk l) b r))
def r9{n:Nat}:∀ {a:List Nat},a.Nodup→n∈a→List.Perm a (n::a.filter fun k=>decide (k≠n))
 |b::r,hn,h=>by
  obtain⟨h1,h2⟩:=yxh.1 hn;by_cases e:b=n
  ·subst e;have e:(r.filter fun k=>decide (k≠b))=r:=List.filter_eq_self.2 fun k hk=>decide_eq_true fun e:k=b=>h1 (by rw[← e];exact hk);rw[yx7 (by simp),e]
  ·rw[List.filter_cons_of_pos (by simpa using e)];have:=r9 h2 ((yyk.1 h).resolve_left fun e'=>e e'.symm);exact(this.cons b).trans (List.Perm.swap n b _)
def q3s(l:List Sh):∀ (f:Nat) {a:List Nat},a.length≤f→a.Nodup→List.Perm (ruleF l f a) a
 |0,a,h,_=>by rw[List.length_eq_zero_iff.1 (Nat.le_zero.1 h)];exact .nil
 |f+1,[],_,_=>.nil
 |f+1,b::r,h,hn=>by have hm:=(q00 (rk l) r b).1;have hp:=r9 hn hm;rw[ruleF];refine List.Perm.trans ?_ hp.symm;refine List.Perm.cons _ (q3s l f ?_ (hn.filter _));have:=hp.length_eq;simp only[List.length_cons] at this h ⊢;omega
def q8f{l:List Sh}(hl:okD l):∀ (f:Nat) {a o:List Nat} (p:Int×Int),a.length≤f→a.Nodup→List.Perm o a→endS l p (ruleF l f a)≤endS l p o
 |0,a,o,p,h,_,ho=>by have:=List.length_eq_zero_iff.1 (Nat.le_zero.1 h);subst this;rw[ho.eq_nil];exact Int.le_refl _
 |f+1,[],o,p,_,_,ho=>by rw[ho.eq_nil];exact Int.le_refl _
 |f+1,b::r,o,p,h,hn,ho=>by
  obtain⟨hm,hle⟩:=q00 (rk l) r b;have hp:=r9 hn hm;rw[ruleF];generalize leastG (rk l) b r=n at hm hle hp ⊢;obtain⟨u,v,rfl⟩:=List.append_of_mem (ho.mem_iff.2 hm);have h1:=first_le hl (n:=n) (u:=u) (v:=v) (fun m hm=>hle m (ho.mem_iff.1 (yxm _ hm))) p;have hq:List.Perm (u++v) ((b::r).filter fun k=>decide (k≠n)):=by refine List.Perm.cons_inv (a:=n) ?_;exact(List.perm_middle.symm.trans ho).trans hp
  have hlen:=hp.length_eq;have h2:=q8f hl f (a:=(b::r).filter fun k=>decide (k≠n)) (nx l p n) (by simp only[List.length_cons] at hlen h ⊢;omega) (hn.filter _) hq;exact Int.le_trans h2 h1
abbrev aN(l:List Sh)(n:Nat):Int:=da (l.getD n z0)
abbrev rN(l:List Sh)(n:Nat):Int:=dr (l.getD n z0)
abbrev cN(l:List Sh)(n:Nat):Int:=dp (l.getD n z0)
def sm(f:Nat→Int)(o:List Nat):Int:=(o.map f).sum
def v9(f:Nat→Int)(n:Nat)(o:List Nat):sm f (n::o)=f n+sm f o:=by simp[sm]
def q92(f:Nat→Int)(a b:List Nat):sm f (a++b)=sm f a+sm f b:=by simp[sm]
def q6f{a b:List Nat}(h:List.Perm a b):sm f a=sm f b:=by
 induction h with
 |nil=>rfl
 |cons x _ ih=>rw[v9,v9,ih]
 |swap x y l=>rw[v9,v9,v9,v9];omega
 |trans _ _ h1 h2=>exact h1.trans h2
def rowU(l:List Sh)(u:List Nat)(n:Nat)(v:List Nat):Int:=sm (aN l) u+aN l n+rN l n+cN l n+sm (cN l) v
def q5v(l:List Sh)(p:Int×Int)(n:Nat)(o:List Nat):endS l p (n::o)=endS l (nx l p n) o:=rfl
def z3v{l:List Sh}:∀ (o:List Nat) (p:Int×Int),p.2+sm (cN l) o≤endS l p o
 |[],p=>by show p.2+0≤p.2;omega
 |n::o,p=>by have:=z3v (l:=l) o (nx l p n);rw[v9,q5v];have h:(nx l p n).2=Max.max (p.1+aN l n+rN l n) p.2+cN l n:=rfl;omega
def end_row{l:List Sh}:∀ (u:List Nat) (n:Nat) (v:List Nat) (p:Int×Int),p.1+rowU l u n v≤endS l p (u++n::v)
 |[],n,v,p=>by have h1:=z3v (l:=l) v (nx l p n);rw[List.nil_append,q5v,rowU];have h:(nx l p n).2=Max.max (p.1+aN l n+rN l n) p.2+cN l n:=rfl;have h2:sm (aN l) []=0:=rfl;omega
 |m::u,n,v,p=>by have h1:=end_row (l:=l) u n v (nx l p m);rw[List.cons_append,q5v];unfold rowU at *;rw[v9];have h:(nx l p m).1=p.1+aN l m:=rfl;omega
def wait(l:List Sh)(front:Bool)(n:Nat):Int:=if front=true then al (l.getD n z0) else be (l.getD n z0)
section
variable {l:List Sh}{m n:Nat}(hm:okS (l.getD m z0))(hn:okS (l.getD n z0))
include hm hn
end
def freeL(N:Nat)(row:List Nat):List Nat:=(List.range N).filter fun n=>decide (n∉row)
def q0g:n∈freeL N row↔n<N∧n∉row:=by unfold freeL;rw[yxl,yys,yyu]
def p9(N:Nat)(row:List Nat):(freeL N row).Nodup:=List.nodup_range.filter _
def dfsL(N:Nat):Nat→List Nat→List (List Nat)
 |0,row=>[row]
 |f+1,row=>(freeL N row).flatMap fun n=>dfsL N f (row++[n])
def q3x{N:Nat}{o:List Nat}:∀ {f:Nat} {row:List Nat},o∈dfsL N f row↔∃ z,o=row++z∧z.length=f∧z.Nodup∧∀ x∈z,x<N∧x∉row
 |0,row=>by
  rw[dfsL,yyl];constructor
  ·rintro rfl;exact⟨[],by simp,rfl,yx2,fun x hx=>by cases hx⟩
  ·rintro⟨z,rfl,h,_⟩;rw[List.length_eq_zero_iff.1 h,yxv]
 |f+1,row=>by
  rw[dfsL,List.mem_flatMap];constructor
  ·rintro⟨n,hn,ho⟩;obtain⟨z,h1,h2,h3,h4⟩:=q3x.1 ho;have hn':=q0g.1 hn;refine⟨n::z,by rw[h1,yxb];rfl,by simp[h2],yxh.2 ⟨fun hz=>?_,h3⟩,fun x hx=>?_⟩
   ·exact(h4 n hz).2 (by simp)
   ·rcases yyk.1 hx with rfl|hx
    ·exact hn'
    ·exact⟨(h4 x hx).1,fun hr=>(h4 x hx).2 (yxm _ hr)⟩
  ·rintro⟨z,rfl,h2,h3,h4⟩;cases z with
   |nil=>simp at h2
   |cons n z=>
    obtain⟨k1,k2⟩:=yxh.1 h3;refine⟨n,q0g.2 (h4 n yyg),q3x.2 ⟨z,by simp,by simpa using h2,k2,fun x hx=>⟨(h4 x (yyh _ hx)).1,fun hr=>?_⟩⟩⟩;rcases yy2.1 hr with hr|hr
    ·exact(h4 x (yyh _ hx)).2 hr
    ·rw[yyl.1 hr] at hx;exact k1 hx
def q5j:∀ {z a:List Nat},z.Nodup→a.Nodup→(∀ x∈z,x∈a)→a.length≤z.length→List.Perm z a
 |[],a,_,_,_,h=>by rw[List.length_eq_zero_iff.1 (Nat.le_zero.1 h)]
 |n::z,a,hz,ha,hs,h=>by obtain⟨h1,h2⟩:=yxh.1 hz;have hp:=r9 ha (hs n yyg);have hl:=hp.length_eq;refine List.Perm.trans ?_ hp.symm;refine List.Perm.cons n (q5j h2 (ha.filter _) (fun x hx=>?_) (by simp only[List.length_cons] at hl h;omega));rw[yxl];exact⟨hs x (yyh _ hx),decide_eq_true fun e=>h1 (e▸hx)⟩
def j0v{N f:Nat}{row z:List Nat}(hf:(freeL N row).length=f)(h2:z.length=f)(h3:z.Nodup)(h4:∀ x∈z,x<N∧x∉row):List.Perm z (freeL N row):=by exact q5j h3 (p9 N row) (fun x hx=>q0g.2 (h4 x hx)) (by omega)
def lvl(N:Nat):Nat→List (List Nat)
 |0=>[[]]
 |k+1=>(lvl N k).flatMap fun row=>(freeL N row).map fun n=>row++[n]
def j17(N:Nat):∀ k f,(lvl N k).flatMap (dfsL N f)=dfsL N (k+f) []
 |0,f=>by simp[lvl]
 |k+1,f=>by rw[lvl,List.flatMap_assoc,show k+1+f=k+(f+1) by omega,← j17 N k (f+1)];congr 1;funext row;rw[dfsL,List.flatMap_map]
def z5c(N:Nat):lvl N N=dfsL N N []:=by have:=j17 N N 0;rw[Nat.add_zero] at this;rw[← this];have e:(dfsL N 0:List Nat→List (List Nat))=fun o=>[o]:=rfl;rw[e,List.flatMap_singleton']
def greedy(l:List Sh)(N:Nat)(least:Int):Nat→List Nat→Int×Int→List Nat
 |0,row,_=>row
 |f+1,row,p=>match (freeL N row).find? fun n=>decide (endS l (nx l p n) (ruleF l N (freeL N (row++[n])))≤least) with
  |some n=>greedy l N least f (row++[n]) (nx l p n)
  |none=>row
def z3s(h:n∈freeL N row):(freeL N (row++[n])).length+1=(freeL N row).length:=by
 have hp:=r9 (p9 N row) h;have e:freeL N (row++[n])=(freeL N row).filter fun k=>decide (k≠n):=by unfold freeL;rw[List.filter_filter];congr 1;funext k;rw[← Bool.decide_and];congr 1;simp only[yy2,yyl,not_or,ne_eq,eq_iff_iff];exact And.comm
 rw[e,hp.length_eq,List.length_cons]
def q18(N:Nat)(row:List Nat):(freeL N row).length≤N:=by have:=yx8 (fun n=>decide (n∉row)) (List.range N);rw[List.length_range] at this;exact this
def q69{l:List Sh}(hl:okD l){N:Nat}{least:Int}:∀ (f:Nat) (row:List Nat),(freeL N row).length=f→(∃ o∈dfsL N f row,endS l (0,0) o≤least) →
  (dfsL N f row).find? (fun o=>decide (endS l (0,0) o≤least))=some (greedy l N least f row (endP l (0,0) row))
 |0,row,_,h=>by obtain⟨o,ho,he⟩:=h;rw[dfsL,yyl] at ho;subst ho;rw[dfsL,greedy,List.find?_cons_of_pos (by exact decide_eq_true he)]
 |f+1,row,hf,h=>by
  have hiff:∀ n∈freeL N row,(∃ o∈dfsL N f (row++[n]),endS l (0,0) o≤least)↔endS l (nx l (endP l (0,0) row) n) (ruleF l N (freeL N (row++[n])))≤least:=fun n hn=>by
   have hlen:=z3s hn;have hp:endP l (0,0) (row++[n])=nx l (endP l (0,0) row) n:=by rw[q0u];rfl
   have hperm:=q3s l N (q18 N (row++[n])) (p9 N (row++[n]));constructor
   ·rintro⟨o,ho,he⟩;obtain⟨z,rfl,z2,z3,z4⟩:=q3x.1 ho;have hz:=j0v (by omega) z2 z3 z4;have:=q8f hl N (endP l (0,0) (row++[n])) (q18 N (row++[n])) (p9 N (row++[n])) hz;rw[hp] at this;have e:endS l (0,0) (row++[n]++z)=endS l (nx l (endP l (0,0) row) n) z:=by unfold endS;rw[q0u,hp]
    omega
   ·intro he;refine⟨row++[n]++ruleF l N (freeL N (row++[n])),q3x.2 ⟨_,rfl,by rw[hperm.length_eq];omega,hperm.nodup_iff.2 (p9 _ _),fun x hx=>q0g.1 (hperm.mem_iff.1 hx)⟩,?_⟩;have e:endS l (0,0) (row++[n]++ruleF l N (freeL N (row++[n])))=endS l (nx l (endP l (0,0) row) n) (ruleF l N (freeL N (row++[n]))):=by unfold endS;rw[q0u,hp]
    omega
  obtain⟨o,ho,he⟩:=h;rw[dfsL,List.mem_flatMap] at ho;obtain⟨n0,hn0,ho⟩:=ho;have hex:=(hiff n0 hn0).1 ⟨o,ho,he⟩;rw[dfsL,List.find?_flatMap,greedy];clear ho he;have key:∀ L:List Nat,(∀ n∈L,n∈freeL N row)→(∃ n∈L,endS l (nx l (endP l (0,0) row) n) (ruleF l N (freeL N (row++[n])))≤least) →
    ∃ n,n∈freeL N row∧L.find? (fun n=>decide (endS l (nx l (endP l (0,0) row) n) (ruleF l N (freeL N (row++[n])))≤least))=some n ∧
     L.findSome? (fun n=>(dfsL N f (row++[n])).find? fun o=>decide (endS l (0,0) o≤least))=(dfsL N f (row++[n])).find? (fun o=>decide (endS l (0,0) o≤least))∧∃ o∈dfsL N f (row++[n]),endS l (0,0) o≤least:=by
   intro L;induction L with
   |nil=>rintro _ ⟨n,hn,_⟩;cases hn
   |cons n L ih=>
    intro hL hx;by_cases hc:endS l (nx l (endP l (0,0) row) n) (ruleF l N (freeL N (row++[n])))≤least
    ·have hg:=(hiff n (hL n yyg)).2 hc;refine⟨n,hL n yyg,List.find?_cons_of_pos (by exact decide_eq_true hc),?_,hg⟩;rw[List.findSome?_cons];cases hq:(dfsL N f (row++[n])).find? (fun o=>decide (endS l (0,0) o≤least)) with
     |some o=>rfl
     |none=>obtain⟨o,ho,he⟩:=hg;exact absurd (decide_eq_true he) (List.find?_eq_none.1 hq o ho)
    ·obtain⟨m,m0,m1,m2,m3⟩:=ih (fun k hk=>hL k (yyh _ hk)) (by
      obtain⟨k,hk,he⟩:=hx;rcases yyk.1 hk with rfl|hk
      ·exact absurd he hc
      ·exact⟨k,hk,he⟩)
     refine⟨m,m0,?_,?_,m3⟩
     ·rw[List.find?_cons_of_neg (by simpa using hc)];exact m1
     ·rw[List.findSome?_cons];have:(dfsL N f (row++[n])).find? (fun o=>decide (endS l (0,0) o≤least))=none:=by rw[List.find?_eq_none];intro o ho he;exact hc ((hiff n (hL n yyg)).1 ⟨o,ho,of_decide_eq_true he⟩)
      rw[this];exact m2
  obtain⟨m,m0,m1,m2,m3⟩:=key (freeL N row) (fun _ h=>h) ⟨n0,hn0,hex⟩;rw[m1,m2];have hlen:=z3s m0;have:=q69 hl f (row++[m]) (by omega) m3;rw[this];have hp:endP l (0,0) (row++[m])=nx l (endP l (0,0) row) m:=by rw[q0u];rfl
  rw[hp]
end Ox.Sh
namespace Ox.Se
open Ox
variable {E A:Nat→Int}
def pa(E A:Nat→Int):Nat→List Nat→Prop
 |_,[]=>True
 |i,j::r=>E i≤A j∧pa E A j r
def lst:Nat→List Nat→Nat
 |i,[]=>i
 |_,j::r=>lst j r
def q8h:∀ (u:List Nat) (h x:Nat) (v:List Nat),pa E A h (u++x::v)↔pa E A h (u++[x])∧pa E A x v
 |[],h,x,v=>by simp[pa]
 |y::u,h,x,v=>by simp only[List.cons_append,pa];rw[q8h u y x v,and_assoc]
def q1d:∀ (t:List Nat) (h x:Nat),pa E A h (t++[x])↔pa E A h t∧E (lst h t)≤A x
 |[],h,x=>by simp[pa,lst]
 |y::t,h,x=>by simp only[List.cons_append,pa,lst];rw[q1d t y x,and_assoc]
def q8o:∀ (u:List Nat) (h x:Nat) (v:List Nat),lst h (u++x::v)=lst x v
 |[],_,_,_=>rfl
 |_::u,_,x,v=>q8o u _ x v
def j18:∀ (t:List Nat) (h:Nat),lst h t∈h::t
 |[],_=>yyg
 |y::t,_=>yyh _ (j18 t y)
def Cy(E A:Nat→Int)(c:Nat×List Nat):Prop:=pa E A c.1 (c.2++[c.1])
abbrev ps(c:Nat×List Nat):List Nat:=c.1::c.2
abbrev flat(L:List (Nat×List Nat)):List Nat:=L.flatMap ps
def Cy.rot{u:List Nat}{x:Nat}{v:List Nat}(hc:Cy E A (h,u++x::v)):Cy E A (x,v++h::u)∧(ps (x,v++h::u)).Perm (ps (h,u++x::v))∧lst x (v++h::u)=lst h u:=by
 refine⟨?_,?_,q8o v x h u⟩
 ·unfold Cy at hc ⊢;dsimp only at hc ⊢;rw[yxb,List.cons_append,q8h] at hc;rw[yxb,List.cons_append,q8h];exact⟨hc.2,hc.1⟩
 ·show(x::(v++h::u)).Perm (h::(u++x::v));have a:(x::(v++h::u))=(x::v)++(h::u):=rfl;have b:(h::(u++x::v))=(h::u)++(x::v):=rfl;rw[a,b];exact List.perm_append_comm
def arc(c:Nat×List Nat)(i j:Nat):Prop:=(∃ u v,c.2++[c.1]=u++j::v∧lst c.1 u=i)
def z34(hc:Cy E A c)(h:arc c i j):E i≤A j:=by obtain⟨u,v,e,rfl⟩:=h;unfold Cy at hc;rw[e,q8h,q1d] at hc;exact hc.1.2
def j4n(hc:Cy E A c)(h:arc c i j):∃ t,Cy E A (j,t)∧lst j t=i∧(ps (j,t)).Perm (ps c):=by
 obtain⟨u,v,e,hi⟩:=h;obtain⟨h0,t0⟩:=c;dsimp only at e hi;rcases List.eq_nil_or_concat v with rfl|⟨v',x,rfl⟩
 ·have e':=List.append_inj' e rfl;have e2:t0=u:=e'.1;have e3:h0=j:=by simpa using e'.2
  subst e2 e3;exact⟨t0,hc,hi,List.Perm.refl _⟩
 ·have e1:u++j::v'.concat x=(u++j::v')++[x]:=by simp
  rw[e1] at e;have e':=List.append_inj' e rfl;have e2:t0=u++j::v':=e'.1;subst e2;obtain⟨a,b,d⟩:=hc.rot;exact⟨v'++h0::u,a,d.trans hi,b⟩
def z72(h:i∈ps c):∃ j,arc c i j:=by
 obtain⟨h0,t0⟩:=c;have key:∀ (t:List Nat) (g:Nat),i∈g::t→∀ x,∃ j u v,t++[x]=u++j::v∧lst g u=i:=by
  intro t;induction t with
  |nil=>intro g hg x;exact⟨x,[],[],rfl,(yyl.1 hg).symm⟩
  |cons y t ih=>
   intro g hg x;rcases yyk.1 hg with rfl|hg
   ·exact⟨y,[],t++[x],rfl,rfl⟩
   ·obtain⟨j,u,v,e,hl⟩:=ih y hg x;exact⟨j,y::u,v,by rw[List.cons_append,e];rfl,hl⟩
 obtain⟨j,u,v,e,hl⟩:=key t0 h0 h h0;exact⟨j,u,v,e,hl⟩
def arc_to(h:j∈ps c):∃ i,arc c i j:=by
 have hm:j∈c.2++[c.1]:=by rcases yyk.1 h with h|h<;>simp[h]
 obtain⟨u,v,e⟩:=List.append_of_mem hm;exact⟨_,u,v,e,rfl⟩
def arc_mem(h:arc c i j):i∈ps c∧j∈ps c:=by
 obtain⟨u,v,e,rfl⟩:=h;have hj:j∈c.2++[c.1]:=by rw[e];simp
 refine⟨?_,by
  rcases yy2.1 hj with h|h
  ·exact yyh _ h
  ·rw[yyl.1 h];exact yyg⟩
 cases u with
 |nil=>exact yyg
 |cons y u=>
  have h1:=j18 u y;have h2:lst y u∈(y::u):=h1;have:∃ w,c.2=(y::u)++w:=by
   rcases List.eq_nil_or_concat v with rfl|⟨v',x,rfl⟩
   ·exact⟨[],by rw[yxv];exact(List.append_inj' e rfl).1⟩
   ·have e1:(y::u)++j::v'.concat x=((y::u)++j::v')++[x]:=by simp
    rw[e1] at e;exact⟨j::v',(List.append_inj' e rfl).1⟩
  obtain⟨w,hw⟩:=this;show lst y u∈ps c;unfold ps;rw[hw];exact yyh _ (yxm _ h2)
def join{c d:Nat×List Nat}{i p k q:Nat}(hc:Cy E A c)(hd:Cy E A d)(h1:arc c i p)(h2:arc d k q)(e1:E i≤A q)(e2:E k≤A p):∃ b,Cy E A b∧(ps b).Perm (ps c++ps d):=by
 obtain⟨t1,a1,a2,a3⟩:=j4n hc h1;obtain⟨t2,b1,b2,b3⟩:=j4n hd h2;refine⟨(p,t1++q::t2),?_,?_⟩
 ·unfold Cy at a1 b1 ⊢;dsimp only at a1 b1 ⊢;rw[yxb,List.cons_append,q8h,q1d,q1d];rw[q1d] at a1 b1;rw[a2] at a1 ⊢;rw[b2] at b1 ⊢;exact⟨⟨a1.1,e1⟩,b1.1,e2⟩
 ·show(p::(t1++q::t2)).Perm _;exact List.Perm.append a3 b3
def cA(A:Nat→Int)(l:List Nat)(x:Int):Nat:=l.countP fun i=>decide (A i≤x)
def q2b{l m:List Nat}(h:l.Perm m)(x:Int):cA A l x=cA A m x:=h.countP_eq _
def cA_app(l m:List Nat)(x:Int):cA A (l++m) x=cA A l x+cA A m x:=List.countP_append
def cA_le(l:List Nat)(x:Int):cA A l x≤l.length:=List.countP_le_length
def n4(i:Nat)(l:List Nat)(x:Int):cA A (i::l) x=cA A l x+if A i≤x then 1 else 0:=by unfold cA;rw[List.countP_cons];simp
variable{l:List Nat}
def q9b{x:Int}:cA A l x=l.length↔∀ i∈l,A i≤x:=by unfold cA;rw[List.countP_eq_length];simp
def z60(f:(Nat×List Nat)→Int):∀ L:List (Nat×List Nat),L≠[]→∃ c∈L,∀ d∈L,f d≤f c
 |[],h=>absurd rfl h
 |[c],_=>⟨c,yyl.2 rfl,fun d hd=>by rw[yyl.1 hd];exact Int.le_refl _⟩
 |c::d::L,_=>by
  obtain⟨b,hb,hm⟩:=z60 f (d::L) (by simp);by_cases h:f b≤f c
  ·refine⟨c,yyg,fun x hx=>?_⟩;rcases yyk.1 hx with rfl|hx
   ·exact Int.le_refl _
   ·have:=hm x hx;omega
  ·refine⟨b,yyh _ hb,fun x hx=>?_⟩;rcases yyk.1 hx with rfl|hx
   ·omega
   ·exact hm x hx
def heads(Q:List (Nat×List Nat)):List Nat:=Q.map fun q=>q.1
def lasts(Q:List (Nat×List Nat)):List Nat:=Q.map fun q=>lst q.1 q.2
def q3z(q:Nat×List Nat)(Q:List (Nat×List Nat)):heads (q::Q)=q.1::heads Q:=rfl
def q3y(q:Nat×List Nat)(Q:List (Nat×List Nat)):lasts (q::Q)=lst q.1 q.2::lasts Q:=rfl
def q8v(Q:List (Nat×List Nat)):(heads Q).length=Q.length:=yxy _
def q5q(Q:List (Nat×List Nat)):(lasts Q).length=Q.length:=yxy _
def z0g(h:Q.Perm R):(heads Q).Perm (heads R):=h.map _
def z0f(h:Q.Perm R):(lasts Q).Perm (lasts R):=h.map _
def j1v:i∈heads Q↔∃ d∈Q,d.1=i:=yy0
def q8n:i∈lasts Q↔∃ d∈Q,lst d.1 d.2=i:=yy0
def z2b:∀ (n:Nat) (Q:List (Nat×List Nat)),Q.length=n→(∀ q∈Q,pa E A q.1 q.2)→(∀ x,cA A (heads Q) x≤cA E (lasts Q) x) →
  ∃ L:List (Nat×List Nat),(∀ c∈L,Cy E A c)∧(flat L).Perm (flat Q)
 |0,Q,hn,_,_=>⟨[],(fun c hc=>by cases hc),by rw[List.length_eq_zero_iff.1 hn]⟩
 |n+1,Q,hn,hp,hx=>by
  have hne:Q≠[]:=fun e=>by rw[e] at hn;cases hn
  obtain⟨q,hq,hqm⟩:=z60 (fun c=>A c.1) Q hne;obtain⟨p,hpQ,hpm⟩:=z60 (fun c=>E (lst c.1 c.2)) Q hne;have hall:∀ x,A q.1≤x→∀ d∈Q,E (lst d.1 d.2)≤x:=fun x hqx=>by
   have h1:cA A (heads Q) x=(heads Q).length:=q9b.2 fun i hi=>by obtain⟨d,hd,rfl⟩:=j1v.1 hi;have:=hqm d hd;omega
   have h2:=hx x;rw[h1,q8v] at h2;have h3:=cA_le (A:=E) (lasts Q) x;rw[q5q] at h3;have h4:cA E (lasts Q) x=(lasts Q).length:=by rw[q5q];omega
   intro d hd;exact q9b.1 h4 _ (q8n.2 ⟨d,hd,rfl⟩)
  have hpq:=hall _ (Int.le_refl _) p hpQ;by_cases hpe:p=q
  ·subst hpe;obtain⟨u,v,rfl⟩:=List.append_of_mem hpQ;have hpm':List.Perm (u++p::v) (p::(u++v)):=List.perm_middle;have hR:∀ d∈u++v,d∈u++p::v:=fun d hd=>hpm'.mem_iff.2 (yyh _ hd);obtain⟨L,hL1,hL2⟩:=z2b n (u++v) (by have:=hpm'.length_eq;simp only[List.length_cons] at this;omega) (fun d hd=>hp d (hR d hd)) fun x=>by
    have e1:=hx x;rw[q2b (z0g hpm'),q2b (A:=E) (z0f hpm'),q3z,q3y,n4,n4] at e1;by_cases hxx:E (lst p.1 p.2)≤x
    ·have:cA E (lasts (u++v)) x=(lasts (u++v)).length:=q9b.2 fun i hi=>by obtain⟨d,hd,rfl⟩:=q8n.1 hi;have:=hpm d (hR d hd);omega
     rw[this];have:=cA_le (A:=A) (heads (u++v)) x;rw[q8v] at this;rw[q5q];exact this
    ·rw[if_neg hxx] at e1;split at e1<;>omega
   refine⟨p::L,fun c hc=>?_,?_⟩
   ·rcases yyk.1 hc with rfl|hc
    ·exact(q1d _ _ _).2 ⟨hp _ hpQ,hpq⟩
    ·exact hL1 c hc
   ·exact(List.Perm.append_left (ps p) hL2).trans ((List.Perm.flatMap_right ps hpm').symm)
  ·obtain⟨u,v,rfl⟩:=List.append_of_mem hq;have hqm':List.Perm (u++q::v) (q::(u++v)):=List.perm_middle;have hp':p∈u++v:=(yyk.1 (hqm'.mem_iff.1 hpQ)).resolve_left hpe;obtain⟨u',v',e⟩:=List.append_of_mem hp';have hm2:List.Perm (u++q::v) (q::p::(u'++v')):=hqm'.trans (List.Perm.cons q (by rw[e];exact List.perm_middle));have hR:∀ d∈u'++v',d∈u++q::v:=fun d hd=>hm2.mem_iff.2 (yyh _ (yyh _ hd));obtain⟨L,hL1,hL2⟩:=z2b n ((p.1,p.2++q.1::q.2)::(u'++v')) (by have:=hm2.length_eq;simp only[List.length_cons] at this ⊢;omega) (fun d hd=>by
     rcases yyk.1 hd with rfl|hd
     ·exact(q8h _ _ _ _).2 ⟨(q1d _ _ _).2 ⟨hp _ hpQ,hpq⟩,hp _ hq⟩
     ·exact hp d (hR d hd)) fun x=>by
    have e1:=hx x;rw[q2b (z0g hm2),q2b (A:=E) (z0f hm2),q3z,q3z,q3y,q3y,n4,n4,n4,n4] at e1;rw[q3z,q3y,n4,n4];dsimp only;rw[q8o];by_cases hxx:E (lst p.1 p.2)≤x
    ·have:cA E (lasts (u'++v')) x=(lasts (u'++v')).length:=q9b.2 fun i hi=>by obtain⟨d,hd,rfl⟩:=q8n.1 hi;have:=hpm d (hR d hd);omega
     rw[this];have h2:=cA_le (A:=A) (heads (u'++v')) x;have h3:=hpm q hq;rw[q8v] at h2;rw[q5q];rw[if_pos (by omega:E (lst q.1 q.2)≤x)];by_cases hpx:A p.1≤x
     ·rw[if_pos hpx];omega
     ·rw[if_neg hpx];omega
    ·have hqx:¬ A q.1≤x:=fun h=>hxx (hall x h p hpQ);rw[if_neg hxx,if_neg hqx] at e1;omega
   refine⟨L,hL1,hL2.trans ?_⟩;refine List.Perm.trans ?_ ((List.Perm.flatMap_right ps hm2).symm);show(p.1::(p.2++q.1::q.2)++flat (u'++v')).Perm (ps q++(ps p++flat (u'++v')));rw[← yxb];refine List.Perm.append_right _ ?_;show((p.1::p.2)++(q.1::q.2)).Perm (ps q++ps p);exact List.perm_append_comm
def cover(hx:∀ x,cA A l x≤cA E l x):∃ L:List (Nat×List Nat),(∀ c∈L,Cy E A c)∧(flat L).Perm l:=by
 obtain⟨L,h1,h2⟩:=z2b (E:=E) (A:=A) l.length (l.map fun i=>(i,[])) (by simp) (fun q hq=>by obtain⟨i,_,rfl⟩:=yy0.1 hq;trivial) fun x=>by
  have e1:heads (l.map fun i=>(i,([]:List Nat)))=l:=by unfold heads;rw[List.map_map];exact List.map_id'' (fun _=>rfl) l
  have e2:lasts (l.map fun i=>(i,([]:List Nat)))=l:=by unfold lasts;rw[List.map_map];exact List.map_id'' (fun _=>rfl) l
  rw[e1,e2];exact hx x
 refine⟨L,h1,h2.trans ?_⟩;have:flat (l.map fun i=>(i,([]:List Nat)))=l:=by unfold flat;rw[List.flatMap_map];exact List.flatMap_singleton' l
 rw[this]
def z70(x:Int):∀ (t:List Nat) (h y:Nat),cA A (t++[y]) x<cA E (h::t) x→∃ u j v,t++[y]=u++j::v∧E (lst h u)≤x∧x<A j
 |[],h,y,hc=>by
  rw[List.nil_append,n4,n4] at hc;have e1:cA A [] x=0:=rfl;have e2:cA E [] x=0:=rfl;rw[e1,e2] at hc;refine⟨[],y,[],rfl,?_,?_⟩
  ·show E h≤x;by_cases c:E h≤x
   ·exact c
   ·rw[if_neg c] at hc;omega
  ·by_cases c:A y≤x
   ·rw[if_pos c] at hc;split at hc<;>omega
   ·omega
 |z::t,h,y,hc=>by
  rw[List.cons_append,n4,n4] at hc;by_cases c:E h≤x∧x<A z
  ·exact⟨[],z,t++[y],rfl,c.1,c.2⟩
  ·have hc':cA A (t++[y]) x<cA E (z::t) x:=by
    by_cases c1:E h≤x
    ·have c2:A z≤x:=by omega
     rw[if_pos c1,if_pos c2] at hc;omega
    ·rw[if_neg c1] at hc;omega
   obtain⟨u,j,v,e,a,b⟩:=z70 x t z y hc';exact⟨z::u,j,v,by rw[List.cons_append,e];rfl,a,b⟩
def z71(x:Int):∀ (t:List Nat) (h y:Nat),pa E A h (t++[y])→cA A (t++[y]) x≤cA E (h::t) x∧(cA A (t++[y]) x=cA E (h::t) x→∀ u j v,t++[y]=u++j::v→E (lst h u)≤x→A j≤x)
 |[],h,y,hp=>by
  rw[List.nil_append,n4,n4];have e1:cA A [] x=0:=rfl;have e2:cA E [] x=0:=rfl;rw[e1,e2];have hp':E h≤A y:=hp.1;constructor
  ·by_cases c:A y≤x
   ·rw[if_pos c,if_pos (by omega:E h≤x)];exact yyn _
   ·rw[if_neg c];omega
  ·intro he u j v e hx;cases u with
   |nil=>
    have:y=j:=by simpa using(List.cons.inj e).1
    subst this;have hx':E h≤x:=hx;rw[if_pos hx'] at he;by_cases c:A y≤x
    ·exact c
    ·rw[if_neg c] at he;omega
   |cons w u=>have:=congrArg List.length e;simp at this
 |z::t,h,y,hp=>by
  rw[List.cons_append] at hp ⊢;obtain⟨p1,p2⟩:=hp;obtain⟨q1,q2⟩:=z71 x t z y p2;rw[n4,n4 (A:=E) h];constructor
  ·by_cases c:A z≤x
   ·rw[if_pos c,if_pos (by omega:E h≤x)];omega
   ·rw[if_neg c];omega
  ·intro he u j v e hx;have hcase:(A z≤x↔E h≤x)∧cA A (t++[y]) x=cA E (z::t) x:=by
    by_cases c:A z≤x
    ·have c2:E h≤x:=by omega
     rw[if_pos c,if_pos c2] at he;exact⟨⟨fun _=>c2,fun _=>c⟩,by omega⟩
    ·rw[if_neg c] at he;by_cases c2:E h≤x
     ·rw[if_pos c2] at he;omega
     ·rw[if_neg c2] at he;exact⟨⟨fun h=>absurd h c,fun h=>absurd h c2⟩,by omega⟩
   cases u with
   |nil=>have:z=j:=(List.cons.inj e).1;subst this;exact hcase.1.2 hx
   |cons w u=>obtain⟨rfl,e'⟩:=List.cons.inj e;exact q2 hcase.2 u j v e' hx
def q7e(c:Nat×List Nat)(L:List (Nat×List Nat))(x:Int):cA A (flat (c::L)) x=cA A (ps c) x+cA A (flat L) x:=by show cA A (ps c++flat L) x=_;exact cA_app _ _ _
def cA_rot(c:Nat×List Nat)(x:Int):cA A (c.2++[c.1]) x=cA A (ps c) x:=q2b (List.perm_append_singleton _ _) x
def z6o{x:Int}:∀ {L:List (Nat×List Nat)},cA A (flat L) x<cA E (flat L) x→∃ c∈L,∃ i j,arc c i j∧E i≤x∧x<A j
 |[],h=>absurd h (by simp[cA])
 |c::L,h=>by
  rw[q7e,q7e (A:=E)] at h;by_cases hc:cA A (ps c) x<cA E (ps c) x
  ·obtain⟨u,j,v,e,a,b⟩:=z70 (E:=E) (A:=A) x c.2 c.1 c.1 (by rw[cA_rot];exact hc);exact⟨c,yyg,_,j,⟨u,v,e,rfl⟩,a,b⟩
  ·obtain⟨d,hd,r⟩:=z6o (L:=L) (x:=x) (by omega);exact⟨d,yyh _ hd,r⟩
def touch(E A:Nat→Int)(l:List Nat)(i k:Nat):Prop:=∃ x y,(x=A i∨x=E i)∧(y=A k∨y=E k)∧∀ z,Min.min x y≤z→z<Max.max x y→cA A l z<cA E l z
def z6z{l:List Nat}(hn:l.Nodup)(hc:∀ S:Nat→Prop,(∃ i∈l,S i)→(∃ k∈l,¬ S k)→∃ i∈l,∃ k∈l,S i∧¬ S k∧touch E A l i k) :
  ∀ (n:Nat) (L:List (Nat×List Nat)),L.length=n+1→(∀ c∈L,Cy E A c)→(flat L).Perm l→∃ c,Cy E A c∧(ps c).Perm l
 |0,[c],_,hy,hp=>⟨c,hy c (yyl.2 rfl),by simpa[flat] using hp⟩
 |n+1,c::L,hlen,hy,hp=>by
  by_cases hm:∃ d∈L,∃ i p k q,arc c i p∧arc d k q∧E i≤A q∧E k≤A p
  ·obtain⟨d,hd,i,p,k,q,h1,h2,e1,e2⟩:=hm;obtain⟨u,v,rfl⟩:=List.append_of_mem hd;obtain⟨b,hb,hbp⟩:=join (hy c yyg) (hy d (yyh _ hd)) h1 h2 e1 e2;refine z6z hn hc n (b::(u++v)) (by simp only[List.length_cons,yyw] at hlen ⊢;omega) (fun x hx=>?_) ?_
   ·rcases yyk.1 hx with rfl|hx
    ·exact hb
    ·exact hy x (yyh _ (by rcases yy2.1 hx with h|h<;>simp[h]))
   ·refine List.Perm.trans ?_ hp;show(ps b++flat (u++v)).Perm (ps c++flat (u++d::v));have e:(flat (u++d::v)).Perm (ps d++flat (u++v)):=List.Perm.flatMap_right ps List.perm_middle;refine(hbp.append_right _).trans ?_;rw[yxb];exact List.Perm.append_left _ e.symm
  ·exfalso;have hnov:∀ d∈L,∀ i p k q,arc c i p→arc d k q→E i≤A q→E k≤A p→False:=fun d hd i p k q h1 h2 e1 e2=>hm ⟨d,hd,i,p,k,q,h1,h2,e1,e2⟩;have hmem:∀ i,i∈l↔i∈ps c∨∃ d∈L,i∈ps d:=fun i=>by rw[← hp.mem_iff];show i∈ps c++flat L↔_;rw[yy2,List.mem_flatMap]
   have hnd:(ps c++flat L).Nodup:=hp.nodup_iff.2 hn;have hdis:∀ i,i∈ps c→∀ d∈L,i∉ps d:=fun i hi d hd h=>by have:=(List.nodup_append.1 hnd).2.2 i hi i (List.mem_flatMap.2 ⟨d,hd,h⟩);exact this rfl
   obtain⟨d0,L0,rfl⟩:∃ d0 L0,L=d0::L0:=by
    cases L with
    |nil=>simp at hlen
    |cons d0 L0=>exact⟨d0,L0,rfl⟩
   obtain⟨i,hi,k,hk,si,sk,x,y,hx,hy2,hz⟩:=hc (fun i=>i∈ps c) ⟨c.1,(hmem _).2 (Or.inl yyg),yyg⟩
    ⟨d0.1,(hmem _).2 (Or.inr ⟨d0,yyg,yyg⟩),fun h=>hdis _ h d0 yyg yyg⟩
   obtain⟨d,hd,hkd⟩:=((hmem k).1 hk).resolve_left sk
   let inC:Int→Prop:=fun z=>∃ a b,arc c a b∧E a≤z∧z≤A b
   have hcx:inC x:=by
    rcases hx with rfl|rfl
    ·obtain⟨a,ha⟩:=arc_to si;exact⟨a,i,ha,z34 (hy c yyg) ha,Int.le_refl _⟩
    ·obtain⟨b,hb⟩:=z72 si;exact⟨i,b,hb,Int.le_refl _,z34 (hy c yyg) hb⟩
   have hdy:∃ a b,arc d a b∧E a≤y∧y≤A b:=by
    rcases hy2 with rfl|rfl
    ·obtain⟨a,ha⟩:=arc_to hkd;exact⟨a,k,ha,z34 (hy d (yyh _ hd)) ha,Int.le_refl _⟩
    ·obtain⟨b,hb⟩:=z72 hkd;exact⟨k,b,hb,Int.le_refl _,z34 (hy d (yyh _ hd)) hb⟩
   have hstep:∀ z,Min.min x y≤z→z<Max.max x y→(inC z↔inC (z+1)):=fun z h1 h2=>by
    have h3:=hz z h1 h2;rw[← q2b hp,← q2b (A:=E) hp] at h3;obtain⟨e,he,a,b,hab,p1,p2⟩:=z6o h3;rcases yyk.1 he with rfl|he
    ·exact⟨fun _=>⟨a,b,hab,by omega,by omega⟩,fun _=>⟨a,b,hab,by omega,by omega⟩⟩
    ·constructor
     ·rintro⟨a',b',h',q1,q2⟩;exact absurd (hnov e he a' b' a b h' hab (by omega) (by omega)) id
     ·rintro⟨a',b',h',q1,q2⟩;exact absurd (hnov e he a' b' a b h' hab (by omega) (by omega)) id
   have hrun:∀ m:Nat,Min.min x y+m≤Max.max x y→(inC (Min.min x y)↔inC (Min.min x y+m)):=by
    intro m;induction m with
    |zero=>intro _;simp
    |succ m ih=>
     intro h;have h1:=ih (by push_cast at h;omega);have h2:=hstep (Min.min x y+m) (by omega) (by push_cast at h;omega);rw[h1,h2];have:Min.min x y+(m:Int)+1=Min.min x y+((m+1:Nat):Int):=by push_cast;omega
     rw[this]
   have hend:=hrun (Max.max x y-Min.min x y).toNat (by omega);have hcy:inC y:=by
    rcases Int.le_total x y with h|h
    ·have e1:Min.min x y=x:=Int.min_eq_left h;have e2:Min.min x y+((Max.max x y-Min.min x y).toNat:Int)=y:=by omega
     rw[e2,e1] at hend;exact hend.1 hcx
    ·have e1:Min.min x y=y:=Int.min_eq_right h;have e2:Min.min x y+((Max.max x y-Min.min x y).toNat:Int)=x:=by omega
     rw[e2,e1] at hend;exact hend.2 hcx
   obtain⟨a,b,hab,p1,p2⟩:=hcy;obtain⟨a',b',hab',q1,q2⟩:=hdy;exact hnov d hd a b a' b' hab hab' (by omega) (by omega)
def j1g(hne:l≠[])(hn:l.Nodup)(hx:∀ x,cA A l x≤cA E l x)
  (hc:∀ S:Nat→Prop,(∃ i∈l,S i)→(∃ k∈l,¬ S k)→∃ i∈l,∃ k∈l,S i∧¬ S k∧touch E A l i k):∃ c,Cy E A c∧(ps c).Perm l:=by
 obtain⟨L,h1,h2⟩:=cover hx;cases L with
 |nil=>exact absurd (h2.symm.eq_nil) hne
 |cons c L=>exact z6z hn hc L.length (c::L) rfl h1 h2
def row_ex:∀ (n:Nat) (L:List (Nat×List Nat)),L.length=n+1→(∀ c∈L,Cy E A c)→∃ c:Nat×List Nat,(ps c).Perm (flat L)∧pa E A c.1 c.2∧∃ d∈L,E (lst c.1 c.2)≤A d.1
 |0,[c],_,hy=>by have h:=hy c (yyl.2 rfl);unfold Cy at h;rw[q1d] at h;exact⟨c,by simp[flat],h.1,c,yyl.2 rfl,h.2⟩
 |n+1,L,hlen,hy=>by
  obtain⟨c,hcm,hmax⟩:=z60 (fun c=>A c.1) L (fun e=>by rw[e] at hlen;cases hlen);obtain⟨u,v,rfl⟩:=List.append_of_mem hcm;have hpm:List.Perm (u++c::v) (c::(u++v)):=List.perm_middle;have hR:∀ d∈u++v,d∈u++c::v:=fun d hd=>hpm.mem_iff.2 (yyh _ hd);obtain⟨b,b1,b2,d,hd,b3⟩:=row_ex n (u++v) (by have:=hpm.length_eq;simp only[List.length_cons] at this;omega) fun d hd=>hy d (hR d hd);have hcy:=hy c hcm;unfold Cy at hcy;rw[q1d] at hcy;have hdm:=hmax d (hR d hd);have hbc:E (lst b.1 b.2)≤A c.1:=by omega
  refine⟨(b.1,b.2++c.1::c.2),?_,(q8h _ _ _ _).2 ⟨(q1d _ _ _).2 ⟨b2,hbc⟩,hcy.1⟩,c,hcm,?_⟩
  ·refine List.Perm.trans ?_ (List.Perm.flatMap_right ps hpm).symm;show((b.1::b.2)++(c.1::c.2)).Perm (ps c++flat (u++v));exact List.perm_append_comm.trans (List.Perm.append_left _ b1)
  ·dsimp only;rw[q8o];exact hcy.2
def one_row(hne:l≠[])(hx:∀ x,cA A l x≤cA E l x):∃ c:Nat×List Nat,(ps c).Perm l∧pa E A c.1 c.2:=by
 obtain⟨L,h1,h2⟩:=cover hx;cases L with
 |nil=>exact absurd (h2.symm.eq_nil) hne
 |cons c L=>obtain⟨d,d1,d2,_⟩:=row_ex L.length (c::L) rfl h1;exact⟨d,d1.trans h2,d2⟩
def z5y(hc:Cy E A c){S:Nat→Prop}(h1:∃ i∈ps c,S i)(h2:∃ k∈ps c,¬ S k):∃ i k,arc c i k∧S i∧¬ S k:=by
 obtain⟨i,hi,si⟩:=h1;obtain⟨k,hk,sk⟩:=h2;refine yxq fun hno=>?_;have hstep:∀ a b,arc c a b→S a→S b:=fun a b hab ha=>yxq fun hb=>hno ⟨a,b,hab,ha,hb⟩;have key:∀ (t:List Nat) (g:Nat),(∀ u j v,t=u++j::v→S (lst g u)→S j)→S g→∀ x∈t,S x:=by
  intro t;induction t with
  |nil=>intro g _ _ x hx;cases hx
  |cons y t ih=>
   intro g hst hg x hx;have hy:S y:=hst [] y t rfl hg;rcases yyk.1 hx with rfl|hx
   ·exact hy
   ·exact ih y (fun u j v e h=>hst (y::u) j v (by rw[e];rfl) h) hy x hx
 have hall:S c.1→∀ x∈ps c,S x:=fun h x hx=>key (c.2++[c.1]) c.1 (fun u j v e h=>hstep _ _ ⟨u,v,e,rfl⟩ h) h x (by rcases yyk.1 hx with h|h<;>simp[h]);have hc1:S c.1:=by
  rcases yyk.1 hi with rfl|hi
  ·exact si
  ·obtain⟨u,v,e⟩:=List.append_of_mem hi;refine key (v++[c.1]) i (fun u' j v' e' h=>hstep _ _ ⟨u++i::u',v',by rw[e,yxb,List.cons_append,e'];simp,by rw[q8o]⟩ h) si c.1 (by simp)
 exact sk (hall hc1 k hk)
end Ox.Se
namespace Ox.Se
open Ox Ox.Sh
abbrev Pt:=Int×Int×Unit
abbrev zP:Pt:=(0,0,())
def aT(l:List Pt)(n:Nat):Int:=(l.getD n zP).1
def lO(l:List Pt)(n:Nat):Int:=(l.getD n zP).2.1
def eN(P:Int)(l:List Pt)(n:Nat):Int:=(aT l n+lO l n) % P
def gp(P:Int)(l:List Pt)(i j:Nat):Int:=(aT l j-eN P l i) % P
def wst(P:Int)(l:List Pt):Nat→List Nat→Int
 |_,[]=>0
 |i,j::r=>gp P l i j+wst P l j r
def tot(P:Int)(l:List Pt)(h:Nat)(t:List Nat):Int:=sm (lO l) (h::t)+wst P l h (t++[h])
def ov1(P:Int)(l:List Pt)(u:Int)(n:Nat):Int:=lO l n / P+if (u-aT l n) % P<lO l n % P then 1 else 0
def ov(P:Int)(l:List Pt)(u:Int):Int:=sm (ov1 P l u) (List.range l.length)
variable {P:Int}{l:List Pt}{c:Int}
def LA(P:Int)(l:List Pt)(c:Int)(n:Nat):Int:=(aT l n-c-1) % P
def LE(P:Int)(l:List Pt)(c:Int)(n:Nat):Int:=(eN P l n-c-1) % P
def pW(P:Int)(l:List Pt)(c:Int)(n:Nat):Int:=(LA P l c n+lO l n) / P
def wr(P:Int)(l:List Pt)(c:Int):Nat→List Nat→Int
 |_,[]=>0
 |i,j::r=>(if LA P l c j<LE P l c i then 1 else 0)+wr P l c j r
def n3(hP:1≤P)(a:Int):0≤a % P∧a % P<P:=⟨Int.emod_nonneg _ (by omega),Int.emod_lt_of_pos _ (by omega)⟩
def LE_eq(hP:1≤P)(n:Nat):LE P l c n=(LA P l c n+lO l n) % P:=by
 unfold LE LA eN;rw[Int.add_emod ((aT l n-c-1) % P),Int.emod_emod_of_dvd _ (Int.dvd_refl P),← Int.add_emod];have e:(aT l n+lO l n) % P-c-1=(aT l n+lO l n) % P-(c+1):=by omega
 rw[e,Int.sub_emod,Int.emod_emod_of_dvd _ (Int.dvd_refl P),← Int.sub_emod];congr 1;omega
def lO_eq(hP:1≤P)(n:Nat):lO l n=LE P l c n-LA P l c n+P*pW P l c n:=by have h:=Int.emod_add_mul_ediv (LA P l c n+lO l n) P;rw[← LE_eq hP] at h;unfold pW;omega
def z1r(hP:1≤P)(i j:Nat):0≤gp P l i j∧gp P l i j<P:=n3 hP _
def gp_eq(hP:1≤P)(i j:Nat):gp P l i j=LA P l c j-LE P l c i+if LA P l c j<LE P l c i then P else 0:=by
 have e:(LA P l c j-LE P l c i) % P=gp P l i j:=by unfold LA LE gp;rw[← Int.sub_emod];congr 1;omega
 have a:0≤LA P l c j∧LA P l c j<P:=n3 hP _;have b:0≤LE P l c i∧LE P l c i<P:=n3 hP _;rw[← e];generalize LA P l c j=x at *;generalize LE P l c i=y at *;by_cases h:x<y
 ·rw[if_pos h,← Int.add_emod_right,Int.emod_eq_of_lt (by omega) (by omega)]
 ·rw[if_neg h,Int.emod_eq_of_lt (by omega) (by omega)];omega
def z9w(hP:1≤P):∀ (t:List Nat) (h y:Nat),wst P l h (t++[y])=sm (LA P l c) (t++[y])-sm (LE P l c) (h::t)+P*wr P l c h (t++[y])
 |[],h,y=>by
  simp only[List.nil_append,wst,wr,v9];have e:∀ f,sm f []=0:=fun _=>rfl;rw[e,e,gp_eq (c:=c) hP];split
  ·rw[Int.add_zero (1:Int),Int.mul_one];omega
  ·rw[Int.add_zero (0:Int),Int.mul_zero];omega
 |z::t,h,y=>by
  simp only[List.cons_append,wst,wr];rw[z9w hP t z y,v9 (LA P l c) z,v9 (LE P l c) h,gp_eq (c:=c) hP,Int.mul_add];split
  ·rw[Int.mul_one];omega
  ·rw[Int.mul_zero];omega
def m6(f g:Nat→Int):∀ o:List Nat,sm (fun n=>f n-g n) o=sm f o-sm g o
 |[]=>rfl
 |n::o=>by rw[v9,v9,v9,m6 f g o];omega
def z2y(f g:Nat→Int):∀ o:List Nat,sm (fun n=>f n+g n) o=sm f o+sm g o
 |[]=>rfl
 |n::o=>by rw[v9,v9,v9,z2y f g o];omega
def sm_mul(k:Int)(f:Nat→Int):∀ o:List Nat,sm (fun n=>k*f n) o=k*sm f o
 |[]=>by simp[sm]
 |n::o=>by rw[v9,v9,sm_mul k f o,Int.mul_add]
def sm_ext{f g:Nat→Int}(h:∀ n,f n=g n)(o:List Nat):sm f o=sm g o:=by rw[show f=g from funext h]
def z93(hP:1≤P)(h:Nat)(t:List Nat):tot P l h t=P*(sm (pW P l c) (h::t)+wr P l c h (t++[h])):=by unfold tot;rw[z9w (c:=c) hP,q6f (List.perm_append_singleton h t),sm_ext (lO_eq (l:=l) (c:=c) hP),z2y,m6,sm_mul,Int.mul_add];omega
def j39(A:Nat→Int)(z:Int):∀ o:List Nat,sm (fun n=>if A n≤z then 1 else 0) o=(cA A o z:Nat)
 |[]=>rfl
 |n::o=>by rw[v9,n4,j39 A z o];split<;>(push_cast;omega)
def pass(hP:1≤P){z A L:Int}(hz:0≤z∧z<P)(hA:0≤A∧A<P):L / P+(if (z-A) % P<L % P then 1 else 0)=(A+L) / P+(if A≤z then 1 else 0)-if (A+L) % P≤z then 1 else 0:=by
 have h1:=Int.emod_add_mul_ediv L P;have h2:=n3 hP L;generalize L / P=q at *;generalize L % P=r at *;have h3:A+L=(A+r)+P*q:=by omega
 rw[h3,Int.add_mul_emod_self_left,Int.add_mul_ediv_left _ _ (by omega:P≠0)];have h4:(z-A) % P=if A≤z then z-A else z-A+P:=by
  by_cases h:A≤z
  ·rw[if_pos h,Int.emod_eq_of_lt (by omega) (by omega)]
  ·rw[if_neg h,← Int.add_emod_right,Int.emod_eq_of_lt (by omega) (by omega)]
 rw[h4];by_cases h:A+r<P
 ·rw[Int.emod_eq_of_lt (by omega) h,Int.ediv_eq_zero_of_lt (by omega) h];by_cases k:A≤z
  ·rw[if_pos k,if_pos k];by_cases m:z-A<r
   ·rw[if_pos m,if_neg (by omega)];omega
   ·rw[if_neg m,if_pos (by omega)];omega
  ·rw[if_neg k,if_neg k,if_neg (by omega),if_neg (by omega)];omega
 ·have e1:(A+r) % P=A+r-P:=by rw[← Int.sub_emod_right,Int.emod_eq_of_lt (by omega) (by omega)]
  have e2:(A+r) / P=1:=by
   have:A+r=(A+r-P)+P*1:=by omega
   rw[this,Int.add_mul_ediv_left _ _ (by omega:P≠0),Int.ediv_eq_zero_of_lt (by omega) (by omega)];rfl
  rw[e1,e2];by_cases k:A≤z
  ·rw[if_pos k,if_pos k,if_pos (by omega),if_pos (by omega)];omega
  ·rw[if_neg k,if_neg k];by_cases m:z-A+P<r
   ·rw[if_pos m,if_neg (by omega)];omega
   ·rw[if_neg m,if_pos (by omega)];omega
def z6p(hP:1≤P)(u:Int):ov P l u=sm (pW P l c) (List.range l.length)+(cA (LA P l c) (List.range l.length) ((u-c-1) % P):Nat)-(cA (LE P l c) (List.range l.length) ((u-c-1) % P):Nat):=by
 unfold ov;have e:∀ n,ov1 P l u n=(pW P l c n+(if LA P l c n≤(u-c-1) % P then 1 else 0))-if LE P l c n≤(u-c-1) % P then 1 else 0:=fun n=>by
  unfold ov1;have h1:(u-aT l n) % P=((u-c-1) % P-LA P l c n) % P:=by unfold LA;rw[← Int.sub_emod];congr 1;omega
  rw[h1,pass (z:=(u-c-1) % P) (A:=LA P l c n) (L:=lO l n) hP (n3 hP _) (n3 hP _),LE_eq hP];rfl
 rw[sm_ext e,m6,z2y,j39,j39]
def cA_zero{A:Nat→Int}(h:∀ i∈o,z<A i):cA A o z=0:=by unfold cA;rw[List.countP_eq_zero];intro i hi hd;have:=of_decide_eq_true hd;have:=h i hi;omega
def z6q(hP:1≤P):ov P l c=sm (pW P l c) (List.range l.length):=by
 have h:=z6p (l:=l) (c:=c) hP c;have e:(c-c-1) % P=P-1:=by rw[show c-c-1=-1 by omega,← Int.add_emod_right,Int.emod_eq_of_lt (by omega) (by omega)];omega
 rw[e] at h;have h1:cA (LA P l c) (List.range l.length) (P-1)=(List.range l.length).length:=q9b.2 fun i _=>by have:LA P l c i<P:=(n3 hP _).2;omega
 have h2:cA (LE P l c) (List.range l.length) (P-1)=(List.range l.length).length:=q9b.2 fun i _=>by have:LE P l c i<P:=(n3 hP _).2;omega
 rw[h1,h2] at h;omega
def rd(P:Int)(l:List Pt)(h:Nat)(t:List Nat):Int:=tot P l h t / P
abbrev isO(l:List Pt)(h:Nat)(t:List Nat):Prop:=(h::t).Perm (List.range l.length)
variable{t:List Nat}
def z6i(hP:1≤P)(ho:isO l h t)(c:Int):rd P l h t=ov P l c+wr P l c h (t++[h]):=by unfold rd;rw[z93 (c:=c) hP,Int.mul_ediv_cancel_left _ (by omega),z6q hP,q6f ho]
def tot_rd(hP:1≤P)(ho:isO l h t):tot P l h t=P*rd P l h t:=by rw[z6i hP ho 0,z93 (c:=0) hP,z6q hP,q6f ho]
def wr_nn(c:Int):∀ (t:List Nat) (h:Nat),0≤wr P l c h t
 |[],_=>Int.le_refl _
 |y::t,h=>by have:=wr_nn c t y;unfold wr;split<;>omega
def z4j:∀ (t:List Nat) (h:Nat),wr P l c h t=0↔pa (LE P l c) (LA P l c) h t
 |[],_=>by simp[wr,pa]
 |y::t,h=>by have h1:=wr_nn (P:=P) (l:=l) c t y;have h2:=z4j t y;unfold wr pa;rw[← h2];split<;>omega
def rd_ge(hP:1≤P)(ho:isO l h t)(u:Int):ov P l u≤rd P l h t:=by rw[z6i hP ho u];have:=wr_nn (P:=P) (l:=l) u (t++[h]) h;omega
def isFull(P:Int)(l:List Pt)(c:Int):Prop:=(0≤c∧c<P)∧∀ u,0≤u→u<P→ov P l u≤ov P l c
def back(hP:1≤P)(hz:0≤z∧z<P)(c:Int):((z+c+1) % P-c-1) % P=z:=by rw[show(z+c+1) % P-c-1=(z+c+1) % P-(c+1) by omega,Int.sub_emod,Int.emod_emod_of_dvd _ (Int.dvd_refl P),← Int.sub_emod];rw[show z+c+1-(c+1)=z by omega,Int.emod_eq_of_lt hz.1 hz.2]
def z6t(hP:1≤P)(hz:0≤z∧z<P):cA (LA P l c) (List.range l.length) z<cA (LE P l c) (List.range l.length) z↔ov P l ((z+c+1) % P)<ov P l c:=by have h:=z6p (l:=l) (c:=c) hP ((z+c+1) % P);rw[back hP hz,← z6q hP] at h;omega
def j2i(hP:1≤P)(hf:isFull P l c)(z:Int):cA (LA P l c) (List.range l.length) z≤cA (LE P l c) (List.range l.length) z:=by
 by_cases h0:z<0
 ·rw[cA_zero fun i _=>by have:0≤LA P l c i:=(n3 hP _).1;omega];exact yy7 _
 ·by_cases h1:P≤z
  ·have h2:cA (LE P l c) (List.range l.length) z=(List.range l.length).length:=q9b.2 fun i _=>by have:LE P l c i<P:=(n3 hP _).2;omega
   rw[h2];exact cA_le _ _
  ·have h:=z6p (l:=l) (c:=c) hP ((z+c+1) % P);rw[back hP (by omega),← z6q hP] at h;have b:=n3 hP (z+c+1);have:=hf.2 ((z+c+1) % P) b.1 b.2;omega
def z9y(y:Nat):∀ (t:List Nat) (h:Nat),wr P l c h (t++[y])=wr P l c h t+if LA P l c y<LE P l c (lst h t) then 1 else 0
 |[],h=>by
  simp only[List.nil_append,wr,lst];rw[Int.add_zero,Int.zero_add]
  first|rfl|(split<;>split<;>first|rfl|omega)
 |z::t,h=>by simp only[List.cons_append,wr,lst];rw[z9y y t z];omega
def rd_cyc(hP:1≤P)(hb:(ps b).Perm (List.range l.length)):rd P l b.1 b.2=ov P l c↔Cy (LE P l c) (LA P l c) b:=by rw[z6i hP hb c];unfold Cy;rw[← z4j];omega
def z6j(hne:l≠[]):List.range l.length≠[]:=fun e=>hne (List.length_eq_zero_iff.1 (by simpa using congrArg List.length e))
def rd_one(hP:1≤P)(hne:l≠[])(hf:isFull P l c):∃ b:Nat×List Nat,(ps b).Perm (List.range l.length)∧rd P l b.1 b.2≤ov P l c+1:=by obtain⟨b,b1,b2⟩:=one_row (z6j hne) (j2i hP hf);refine⟨b,b1,?_⟩;rw[z6i hP b1 c,z9y,(z4j _ _).2 b2];split<;>omega
def opn(P:Int)(l:List Pt)(c z:Int):Prop:=ov P l ((z+c+1) % P)<ov P l c
def tch(P:Int)(l:List Pt)(c:Int)(i k:Nat):Prop:=∃ x y,(x=LA P l c i∨x=LE P l c i)∧(y=LA P l c k∨y=LE P l c k)∧∀ z,Min.min x y≤z→z<Max.max x y→opn P l c z
def LA_bd(hP:1≤P)(n:Nat):0≤LA P l c n∧LA P l c n<P:=n3 hP _
def LE_bd(hP:1≤P)(n:Nat):0≤LE P l c n∧LE P l c n<P:=n3 hP _
variable{k:Nat}
def z95(hP:1≤P):tch P l c i k↔touch (LE P l c) (LA P l c) (List.range l.length) i k:=by
 have key:∀ x y,(x=LA P l c i∨x=LE P l c i)→(y=LA P l c k∨y=LE P l c k)→∀ z,Min.min x y≤z→z<Max.max x y→(opn P l c z↔cA (LA P l c) (List.range l.length) z<cA (LE P l c) (List.range l.length) z):=by
  intro x y hx hy z h1 h2;have a:=LA_bd (l:=l) (c:=c) hP i;have b:=LE_bd (l:=l) (c:=c) hP i;have d:=LA_bd (l:=l) (c:=c) hP k;have e:=LE_bd (l:=l) (c:=c) hP k;have hz:0≤z∧z<P:=by rcases hx with rfl|rfl<;>rcases hy with rfl|rfl<;>omega
  exact(z6t hP hz).symm
 constructor
 ·rintro⟨x,y,hx,hy,h⟩;exact⟨x,y,hx,hy,fun z h1 h2=>(key x y hx hy z h1 h2).1 (h z h1 h2)⟩
 ·rintro⟨x,y,hx,hy,h⟩;exact⟨x,y,hx,hy,fun z h1 h2=>(key x y hx hy z h1 h2).2 (h z h1 h2)⟩
def held(P:Int)(l:List Pt)(c:Int):Prop:=∀ S:Nat→Prop,(∃ i,i<l.length∧S i)→(∃ k,k<l.length∧¬ S k)→∃ i k,i<l.length∧k<l.length∧S i∧¬ S k∧tch P l c i k
def rd_held(hP:1≤P)(hne:l≠[])(hf:isFull P l c)(hh:held P l c):∃ b:Nat×List Nat,(ps b).Perm (List.range l.length)∧rd P l b.1 b.2=ov P l c:=by
 obtain⟨b,b1,b2⟩:=j1g (z6j hne) List.nodup_range (j2i (l:=l) (c:=c) hP hf) fun S h1 h2=>by obtain⟨i,hi,si⟩:=h1;obtain⟨k,hk,sk⟩:=h2;obtain⟨a,b,ha,hb,sa,sb,ht⟩:=hh S ⟨i,yys.1 hi,si⟩ ⟨k,yys.1 hk,sk⟩;exact⟨a,yys.2 ha,b,yys.2 hb,sa,sb,(z95 hP).1 ht⟩
 exact⟨b,b2,(rd_cyc hP b2).2 b1⟩
def arc_opn(hP:1≤P)(hb:(ps b).Perm (List.range l.length))(hc:Cy (LE P l c) (LA P l c) b)(ha:arc b i k)(h1:LE P l c i≤z)(h2:z<LA P l c k):opn P l c z:=by
 have hz:0≤z∧z<P:=by have a:=LE_bd (l:=l) (c:=c) hP i;have d:=LA_bd (l:=l) (c:=c) hP k;omega
 refine(z6t hP hz).1 ?_;obtain⟨u,v,e,rfl⟩:=ha;obtain⟨q1,q2⟩:=z71 z b.2 b.1 b.1 hc;rw[cA_rot,q2b hb,q2b (A:=LE P l c) hb] at q1 q2;refine Nat.lt_of_le_of_ne q1 fun he=>?_;have:=q2 he u k v e h1;omega
def held_of(hP:1≤P)(hb:(ps b).Perm (List.range l.length))(he:rd P l b.1 b.2=ov P l c):held P l c:=fun S ⟨i,hi,si⟩ ⟨k,hk,sk⟩=>by have hc:=(rd_cyc hP hb).1 he;obtain⟨a,d,had,sa,sd⟩:=z5y hc (S:=S) ⟨i,hb.mem_iff.2 (yys.2 hi),si⟩ ⟨k,hb.mem_iff.2 (yys.2 hk),sk⟩;obtain⟨ma,md⟩:=arc_mem had;refine⟨a,d,yys.1 (hb.mem_iff.1 ma),yys.1 (hb.mem_iff.1 md),sa,sd,LE P l c a,LA P l c d,Or.inr rfl,Or.inl rfl,fun z h1 h2=>?_⟩;have hle:=z34 hc had;exact arc_opn hP hb hc had (by omega) (by omega)
def z4i(x:Nat)(v:List Nat):∀ (u:List Nat) (h:Nat),wst P l h (u++x::v)=wst P l h (u++[x])+wst P l x v
 |[],h=>by simp[wst]
 |y::u,h=>by simp only[List.cons_append,wst];rw[z4i x v u y];omega
def z6g(h x:Nat)(u v:List Nat):(x::(v++h::u)).Perm (h::(u++x::v)):=by have a:(x::(v++h::u))=(x::v)++(h::u):=rfl;have b:(h::(u++x::v))=(h::u)++(x::v):=rfl;rw[a,b];exact List.perm_append_comm
def tot_rot(h x:Nat)(u v:List Nat):tot P l x (v++h::u)=tot P l h (u++x::v):=by unfold tot;have a:=z4i (P:=P) (l:=l) h (u++[x]) v x;have b:=z4i (P:=P) (l:=l) x (v++[h]) u h;rw[q6f (z6g h x u v),yxb,yxb,List.cons_append,List.cons_append,a,b];omega
def rot0(hne:l≠[])(hb:(ps b).Perm (List.range l.length)):∃ z,isO l 0 z∧rd P l 0 z=rd P l b.1 b.2:=by
 have h0:0∈ps b:=hb.mem_iff.2 (yys.2 (List.length_pos_iff.2 hne));obtain⟨h,t⟩:=b;rcases yyk.1 h0 with e|h0
 ·dsimp only at e;subst e;exact⟨t,hb,rfl⟩
 ·obtain⟨u,v,rfl⟩:=List.append_of_mem h0;exact⟨v++h::u,(z6g h 0 u v).trans hb,by unfold rd;rw[tot_rot]⟩
def allO(N:Nat):List (List Nat):=dfsL N (N-1) [0]
def q16(hN:1≤N):o∈allO N↔∃ z,o=0::z∧(0::z).Perm (List.range N):=by
 unfold allO;rw[q3x];constructor
 ·rintro⟨z,rfl,h1,h2,h3⟩;refine⟨z,rfl,q5j (yxh.2 ⟨fun h=>(h3 0 h).2 (yyl.2 rfl),h2⟩) List.nodup_range (fun x hx=>?_) (by rw[List.length_range,List.length_cons];omega)⟩;rcases yyk.1 hx with rfl|hx
  ·exact yys.2 (by omega)
  ·exact yys.2 (h3 x hx).1
 ·rintro⟨z,rfl,hp⟩;have hn:=hp.nodup_iff.2 List.nodup_range;obtain⟨n1,n2⟩:=yxh.1 hn;refine⟨z,rfl,by have:=hp.length_eq;rw[List.length_range,List.length_cons] at this;omega,n2,fun x hx=>⟨yys.1 (hp.mem_iff.1 (yyh _ hx)),fun h=>?_⟩⟩;rw[yyl] at h;exact n1 (h▸hx)
def rdL(P:Int)(l:List Pt):List Nat→Int
 |[]=>0
 |h::t=>rd P l h t
def z1v:∀ (L:List Int) (a:Int),L.foldl Min.min a≤a∧(∀ x∈L,L.foldl Min.min a≤x)∧(L.foldl Min.min a=a∨L.foldl Min.min a∈L)
 |[],a=>⟨Int.le_refl _,(fun x h=>by cases h),Or.inl rfl⟩
 |y::L,a=>by
  rw[List.foldl_cons];obtain⟨h1,h2,h3⟩:=z1v L (Min.min a y);generalize L.foldl Min.min (Min.min a y)=m at *;refine⟨by omega,fun x hx=>?_,?_⟩
  ·rcases yyk.1 hx with rfl|hx
   ·omega
   ·exact h2 x hx
  ·rcases h3 with h3|h3
   ·rcases Int.le_total a y with h|h
    ·exact Or.inl (by omega)
    ·exact Or.inr (yyk.2 (Or.inl (by omega)))
   ·exact Or.inr (yyh _ h3)
def leR(P:Int)(l:List Pt):Int:=((allO l.length).map (rdL P l)).foldl Min.min (rdL P l (List.range l.length))
def j0z(hN:1≤N):List.range N∈allO N:=by
 obtain⟨M,rfl⟩:∃ M,N=M+1:=⟨N-1,by omega⟩;refine(q16 hN).2 ⟨(List.range M).map Nat.succ,?_,?_⟩
 ·rw[List.range_succ_eq_map]
 ·rw[List.range_succ_eq_map]
def j2l(h:o∈allO l.length):leR P l≤rdL P l o:=(z1v _ _).2.1 _ (List.mem_map_of_mem h)
def j2k(hne:l≠[]):∃ o∈allO l.length,rdL P l o=leR P l:=by
 have hN:1≤l.length:=List.length_pos_iff.2 hne;rcases(z1v ((allO l.length).map (rdL P l)) (rdL P l (List.range l.length))).2.2 with h|h
 ·exact⟨_,j0z hN,h.symm⟩
 ·obtain⟨o,ho,he⟩:=yy0.1 h;exact⟨o,ho,he⟩
def leR_le(hne:l≠[])(hb:(ps b).Perm (List.range l.length)):leR P l≤rd P l b.1 b.2:=by have hN:1≤l.length:=List.length_pos_iff.2 hne;obtain⟨z,hz,he⟩:=rot0 (P:=P) hne hb;have:=j2l (P:=P) ((q16 hN).2 ⟨z,rfl,hz⟩);rw[← he];exact this
def leR_ex(hne:l≠[]):∃ z,isO l 0 z∧rd P l 0 z=leR P l:=by have hN:1≤l.length:=List.length_pos_iff.2 hne;obtain⟨o,ho,he⟩:=j2k (P:=P) hne;obtain⟨z,rfl,hp⟩:=(q16 hN).1 ho;exact⟨z,hp,he⟩
def leR_ge(hP:1≤P)(hne:l≠[])(u:Int):ov P l u≤leR P l:=by obtain⟨z,hz,he⟩:=leR_ex (P:=P) hne;rw[← he];exact rd_ge hP hz u
def j2j(hP:1≤P)(hne:l≠[])(hf:isFull P l c):leR P l≤ov P l c+1:=by obtain⟨b,b1,b2⟩:=rd_one hP hne hf;exact Int.le_trans (leR_le hne b1) b2
def leR_held(hP:1≤P)(hne:l≠[])(hf:isFull P l c):leR P l=ov P l c↔held P l c:=by
 constructor
 ·intro h;obtain⟨z,hz,he⟩:=leR_ex (P:=P) hne;exact held_of (b:=(0,z)) hP hz (he.trans h)
 ·intro h;obtain⟨b,b1,b2⟩:=rd_held hP hne hf h;have:=leR_le (P:=P) hne b1;have:=leR_ge (l:=l) hP hne c;omega
def amx(f:Nat→Int):Nat→Nat
 |0=>0
 |k+1=>if f (amx f k)<f (k+1) then k+1 else amx f k
def z2l(f:Nat→Int):∀ k,amx f k≤k∧(∀ i,i≤k→f i≤f (amx f k))∧∀ i,i<amx f k→f i<f (amx f k)
 |0=>⟨yyn _,(fun i h=>by rw[Nat.le_zero.1 h];exact Int.le_refl _),fun i h=>absurd h (Nat.not_lt_zero _)⟩
 |k+1=>by
  obtain⟨h1,h2,h3⟩:=z2l f k;rw[amx];split
  ·rename_i h;refine⟨yyn _,fun i hi=>?_,fun i hi=>?_⟩
   ·rcases Nat.lt_or_ge k i with e|e
    ·rw[show i=k+1 by omega];exact Int.le_refl _
    ·have:=h2 i e;omega
   ·have:=h2 i (by omega);omega
  ·rename_i h;refine⟨by omega,fun i hi=>?_,h3⟩;rcases Nat.lt_or_ge k i with e|e
   ·rw[show i=k+1 by omega];omega
   ·exact h2 i e
def pkA(P:Int)(l:List Pt):Nat:=amx (fun u=>ov P l (u:Int)) (P.toNat-1)
def pkV(P:Int)(l:List Pt):Int:=ov P l (pkA P l:Int)
def q41(hP:1≤P):isFull P l (pkA P l:Int):=by obtain⟨h1,h2,h3⟩:=z2l (fun u:Nat=>ov P l (u:Int)) (P.toNat-1);refine⟨⟨by omega,by unfold pkA;omega⟩,fun u h0 h4=>?_⟩;have:=h2 u.toNat (by omega);rw[Int.toNat_of_nonneg h0] at this;exact this
def q7n(u:Nat)(h:u<pkA P l):ov P l (u:Int)<pkV P l:=(z2l (fun u:Nat=>ov P l (u:Int)) (P.toNat-1)).2.2 u h
def pk_le(hP:1≤P)(h:(u:Int)<P):ov P l (u:Int)≤pkV P l:=(q41 hP).2 _ (by omega) h
def flB(P:Int)(l:List Pt)(u:Nat):Bool:=decide (ov P l (u:Int)=pkV P l)
def fcn(P:Int)(l:List Pt)(u:Nat):Nat:=(List.range u).countP (flB P l)
def q7v(u:Nat):fcn P l (u+1)=fcn P l u+if flB P l u=true then 1 else 0:=by unfold fcn;rw[List.range_succ,List.countP_append,List.countP_cons,List.countP_nil];simp
def z10{u:Nat}:∀ (k:Nat),fcn P l u≤fcn P l (u+k)
 |0=>yyn _
 |k+1=>by have:=z10 (u:=u) k;rw[← Nat.add_assoc,q7v];omega
def fcn_le{u v:Nat}(h:u≤v):fcn P l u≤fcn P l v:=by have:=z10 (P:=P) (l:=l) (u:=u) (v-u);rwa[show u+(v-u)=v by omega] at this
def j3a{u:Nat}:∀ (k:Nat),fcn P l u=fcn P l (u+k)↔∀ w,u≤w→w<u+k→flB P l w=false
 |0=>⟨fun _ w h1 h2=>by omega,fun _=>rfl⟩
 |k+1=>by
  have h1:=z10 (P:=P) (l:=l) (u:=u) k;have h2:=j3a (u:=u) k;rw[← Nat.add_assoc,q7v];constructor
  ·intro h w a b;cases hw:flB P l (u+k) with
   |true=>rw[hw,if_pos rfl] at h;omega
   |false=>
    rw[hw] at h;simp at h;rcases Nat.lt_or_ge w (u+k) with e|e
    ·exact(h2.1 (by omega)) w a e
    ·rw[show w=u+k by omega];exact hw
  ·intro h;rw[h (u+k) (by omega) (by omega)];have:=h2.2 fun w a b=>h w a (by omega);simp;omega
def z1y(h:u≤pkA P l):fcn P l u=0:=by unfold fcn;rw[List.countP_eq_zero];intro w hw hf;have h1:=q7n (P:=P) (l:=l) w (by have:=yys.1 hw;omega);have:=of_decide_eq_true hf;omega
def fl_pk:flB P l (pkA P l)=true:=decide_eq_true rfl
def z1z(h:pkA P l<u):1≤fcn P l u:=by have h1:=fcn_le (P:=P) (l:=l) (u:=pkA P l+1) (v:=u) h;rw[q7v,fl_pk,if_pos rfl] at h1;omega
def stN(P:Int)(l:List Pt)(u:Nat):Nat:=if fcn P l u=fcn P l P.toNat then 0 else fcn P l u
def z6s(hP:1≤P){w:Nat}(hw:(w:Int)<P):ov P l (w:Int)<ov P l (pkA P l:Int)↔flB P l w=false:=by unfold flB;have:=pk_le (l:=l) hP hw;rw[decide_eq_false_iff_not];unfold pkV at *;omega
def btw_le(hP:1≤P)(hp:(p:Int)<P)(hq:(q:Int)<P)(hxy:((p:Int)-pkA P l-1) % P≤((q:Int)-pkA P l-1) % P) :
  (∀ z,((p:Int)-pkA P l-1) % P≤z→z<((q:Int)-pkA P l-1) % P→opn P l (pkA P l:Int) z)↔stN P l p=stN P l q:=by
 have hc:=(q41 (l:=l) hP).1;have hN:1≤fcn P l P.toNat:=z1z (by omega);have key:∀ u:Nat,(u:Int)<P→((u:Int)-pkA P l-1) % P=if u≤pkA P l then(u:Int)-pkA P l-1+P else(u:Int)-pkA P l-1:=fun u hu=>by
  split
  ·rw[← Int.add_emod_right,Int.emod_eq_of_lt (by omega) (by omega)]
  ·rw[Int.emod_eq_of_lt (by omega) (by omega)]
 rw[key p hp,key q hq] at hxy ⊢;have hzw:∀ z:Int,0≤z→z<P→(z+pkA P l+1) % P=if z+pkA P l+1<P then z+pkA P l+1 else z+pkA P l+1-P:=fun z h0 h1=>by
  split
  ·rw[Int.emod_eq_of_lt (by omega) (by omega)]
  ·rw[← Int.sub_emod_right,Int.emod_eq_of_lt (by omega) (by omega)]
 by_cases c1:p≤pkA P l
 ·by_cases c2:q≤pkA P l
  ·rw[if_pos c1,if_pos c2] at hxy ⊢;have e1:stN P l p=stN P l q:=by unfold stN;rw[z1y c1,z1y c2]
   refine⟨fun _=>e1,fun _ z h1 h2=>?_⟩;unfold opn;rw[hzw z (by omega) (by omega),if_neg (by omega)];have h3:=q7n (P:=P) (l:=l) (z+pkA P l+1-P).toNat (by omega);rw[Int.toNat_of_nonneg (by omega)] at h3;exact h3
  ·rw[if_pos c1,if_neg c2] at hxy;exact absurd hxy (by omega)
 ·by_cases c2:q≤pkA P l
  ·rw[if_neg c1,if_pos c2] at hxy ⊢;have e2:stN P l q=0:=by unfold stN;rw[z1y c2,if_neg (by omega)]
   have e1:stN P l p=0↔fcn P l p=fcn P l P.toNat:=by
    unfold stN;have:=z1z (P:=P) (l:=l) (u:=p) (by omega);split
    ·rename_i h;exact⟨fun _=>h,fun _=>rfl⟩
    ·rename_i h;exact⟨fun h'=>by omega,fun h'=>absurd h' h⟩
   rw[e2,e1];have e3:=j3a (P:=P) (l:=l) (u:=p) (P.toNat-p);rw[show p+(P.toNat-p)=P.toNat by omega] at e3;rw[e3];constructor
   ·intro h w h1 h2;have h3:=h ((w:Int)-pkA P l-1) (by omega) (by omega);unfold opn at h3;rw[hzw _ (by omega) (by omega),if_pos (by omega),show(w:Int)-pkA P l-1+pkA P l+1=w by omega] at h3;exact(z6s hP (by omega)).1 h3
   ·intro h z h1 h2;unfold opn;rw[hzw z (by omega) (by omega)];split
    ·have h3:=(z6s (l:=l) hP (w:=(z+pkA P l+1).toNat) (by omega)).2 (h _ (by omega) (by omega));rw[Int.toNat_of_nonneg (by omega)] at h3;exact h3
    ·have h3:=q7n (P:=P) (l:=l) (z+pkA P l+1-P).toNat (by omega);rw[Int.toNat_of_nonneg (by omega)] at h3;exact h3
  ·rw[if_neg c1,if_neg c2] at hxy ⊢;have hpq:p≤q:=by omega
   have a1:=z1z (P:=P) (l:=l) (u:=p) (by omega);have a2:=z1z (P:=P) (l:=l) (u:=q) (by omega);have e1:stN P l p=stN P l q↔fcn P l p=fcn P l q:=by unfold stN;split<;>split<;>omega
   rw[e1];have e3:=j3a (P:=P) (l:=l) (u:=p) (q-p);rw[show p+(q-p)=q by omega] at e3;rw[e3];constructor
   ·intro h w h1 h2;have h3:=h ((w:Int)-pkA P l-1) (by omega) (by omega);unfold opn at h3;rw[hzw _ (by omega) (by omega),if_pos (by omega),show(w:Int)-pkA P l-1+pkA P l+1=w by omega] at h3;exact(z6s hP (by omega)).1 h3
   ·intro h z h1 h2;unfold opn;rw[hzw z (by omega) (by omega),if_pos (by omega)];have h3:=(z6s (l:=l) hP (w:=(z+pkA P l+1).toNat) (by omega)).2 (h _ (by omega) (by omega));rw[Int.toNat_of_nonneg (by omega)] at h3;exact h3
def btw(hP:1≤P)(hp:(p:Int)<P)(hq:(q:Int)<P) :
  (∀ z,Min.min (((p:Int)-pkA P l-1) % P) (((q:Int)-pkA P l-1) % P)≤z→z<Max.max (((p:Int)-pkA P l-1) % P) (((q:Int)-pkA P l-1) % P)→opn P l (pkA P l:Int) z)↔stN P l p=stN P l q:=by
 rcases Int.le_total (((p:Int)-pkA P l-1) % P) (((q:Int)-pkA P l-1) % P) with h|h
 ·rw[Int.min_eq_left h,Int.max_eq_right h];exact btw_le hP hp hq h
 ·rw[Int.min_eq_right h,Int.max_eq_left h,btw_le hP hq hp h];exact eq_comm
def okP(P:Int)(l:List Pt):Prop:=∀ s∈l,(0≤s.1∧s.1<P)∧1≤s.2.1∧s.2.1≤10000
def okP.get(h:okP P l)(hn:n<l.length):(0≤aT l n∧aT l n<P)∧1≤lO l n∧lO l n≤10000:=by unfold aT lO;rw[yyj,yyo hn];exact h _ (yyv hn)
def sA(P:Int)(l:List Pt)(n:Nat):Nat:=stN P l (aT l n).toNat
def sE(P:Int)(l:List Pt)(n:Nat):Nat:=stN P l (eN P l n).toNat
def tch_st(hP:1≤P)(hl:okP P l)(hi:i<l.length)(hk:k<l.length) :
  tch P l (pkA P l:Int) i k↔(sA P l i=sA P l k∨sA P l i=sE P l k∨sE P l i=sA P l k∨sE P l i=sE P l k):=by
 have key:∀ {x y:Int},(0≤x∧x<P)→(0≤y∧y<P)→((∀ z,Min.min ((x-pkA P l-1) % P) ((y-pkA P l-1) % P)≤z→z<Max.max ((x-pkA P l-1) % P) ((y-pkA P l-1) % P)→opn P l (pkA P l:Int) z)↔stN P l x.toNat=stN P l y.toNat):=fun {x y} hx hy=>by have:=btw (l:=l) hP (p:=x.toNat) (q:=y.toNat) (by omega) (by omega);rwa[Int.toNat_of_nonneg hx.1,Int.toNat_of_nonneg hy.1] at this
 have ai:=(hl.get hi).1;have ak:=(hl.get hk).1;have ei:0≤eN P l i∧eN P l i<P:=n3 hP _;have ek:0≤eN P l k∧eN P l k<P:=n3 hP _;unfold tch sA sE;rw[← key ai ak,← key ai ek,← key ei ak,← key ei ek];constructor
 ·rintro⟨x,y,rfl|rfl,rfl|rfl,h⟩
  ·exact Or.inl h
  ·exact Or.inr (Or.inl h)
  ·exact Or.inr (Or.inr (Or.inl h))
  ·exact Or.inr (Or.inr (Or.inr h))
 ·rintro(h|h|h|h)
  ·exact⟨_,_,Or.inl rfl,Or.inl rfl,h⟩
  ·exact⟨_,_,Or.inl rfl,Or.inr rfl,h⟩
  ·exact⟨_,_,Or.inr rfl,Or.inl rfl,h⟩
  ·exact⟨_,_,Or.inr rfl,Or.inr rfl,h⟩
end Ox.Se
namespace Ox
open Go Go.RowKit
variable {X:Ctx}{M:Mem}{ρ:Env}{a:Act}{w w':World}{QA:Exit→S→Prop}{all l:List Oper}{L:List (Nat×AV)}{H:List (Nat×HO)}{nx d:Nat}{ty:TypeId}{ps:String}{af:Array Edge}
variable{c:Value}
def j5b(k:JL X true all QA l ⟨del L d,H,nx⟩):JL X true all QA (⟨some d,.assign (.const c),ty,ps,af,none⟩::l) ⟨L,H,nx⟩:=by
 intro M ρ a w s1 s2;refine j7 (w6 rfl) (v7 (v:=c) rfl (by simp only[execOp,yyf];rfl) (k M ρ _ w ⟨s1.below,s1.msub,s1.mnew,s1.mem,s1.own,s1.apart,s1.notM⟩ ⟨by simp[Act.put,s2.size],s2.defers,fun e v he=>?_⟩));obtain⟨h1,h2⟩:=z0i he;have:=s2.reg e v h2;refine⟨this.1,?_⟩;have e1:((a.put (some d) c).tmps.getD e Go.undef)=a.tmps.getD e Go.undef:=by simp only[Act.put,yyx];rw[yx4 (Ne.symm h1)]
 rw[e1];exact this.2
def j5h{rr:List Fr}(k:JK X (.ops true all l::rr) QA ⟨del L d,H,nx⟩):JK X (.ops true all (⟨some d,.assign (.const c),ty,ps,af,none⟩::l)::rr) QA ⟨L,H,nx⟩:=j5b (L:=L) (H:=H) (nx:=nx) k
variable {s:S}{a':Act}{K:S→Prop}{ops:List Oper}{ls fl fr:List Nat}{fuel:Nat}
end Ox
namespace Ox
open Go Go.RowKit
noncomputable section
def bAnd(x y:Bool):Bool:=@Bool.rec (fun _=>Bool) false y x
def v4{x y:Bool}:bAnd x y=true↔x=true∧y=true:=by cases x<;>cases y<;>simp[bAnd]
def kEqF(a b:IntKind):Bool:=Nat.beq a.ctorIdx b.ctorIdx
def kEqF_eq(a b:IntKind):kEqF a b=decide (a=b):=by cases a<;>cases b<;>rfl
def bEqF(a b:Bool):Bool:=@Bool.rec (fun _=>Bool) (@Bool.rec (fun _=>Bool) true false b) b a
def j4i(a b:Bool):bEqF a b=(a==b):=by cases a<;>cases b<;>rfl
def iEq(a b:Int):Bool:=@Int.rec (fun _=>Int→Bool) (fun m b=>@Int.rec (fun _=>Bool) (fun n=>Nat.beq m n) (fun _=>false) b) (fun m b=>@Int.rec (fun _=>Bool) (fun _=>false) (fun n=>Nat.beq n m) b) a b
def z3p(a b:Int):iEq a b=(a==b):=by rw[yy5];cases a<;>cases b<;>simp[iEq]<;>omega
def RV.eqb(a:RV):RV→Bool:=@RV.rec (fun _=>RV→Bool) (fun k j b=>@RV.rec (fun _=>Bool) (fun k2 j2=>bAnd (kEqF k k2) (iEq j j2)) (fun _=>false) (false) (false) (false) (false) (false) (fun _ _=>false) (fun _ _ _ _=>false) (fun _ _ _ _ _ _=>false) (fun _=>false) (fun _=>false) (fun _=>false) (fun _ _ _ _ _=>false) (fun _ _=>false) (fun _ _=>false) (false) (fun _ _ _ _=>false) b) (fun x b=>@RV.rec (fun _=>Bool) (fun _ _=>false) (fun x2=>bEqF x x2) (false) (false) (false) (false) (false) (fun _ _=>false) (fun _ _ _ _=>false) (fun _ _ _ _ _ _=>false) (fun _=>false) (fun _=>false) (fun _=>false) (fun _ _ _ _ _=>false) (fun _ _=>false) (fun _ _=>false) (false) (fun _ _ _ _=>false) b) (fun b=>@RV.rec (fun _=>Bool) (fun _ _=>false) (fun _=>false) (true) (false) (false) (false) (false) (fun _ _=>false) (fun _ _ _ _=>false) (fun _ _ _ _ _ _=>false) (fun _=>false) (fun _=>false) (fun _=>false) (fun _ _ _ _ _=>false) (fun _ _=>false) (fun _ _=>false) (false) (fun _ _ _ _=>false) b) (fun b=>@RV.rec (fun _=>Bool) (fun _ _=>false) (fun _=>false) (false) (true) (false) (false) (false) (fun _ _=>false) (fun _ _ _ _=>false) (fun _ _ _ _ _ _=>false) (fun _=>false) (fun _=>false) (fun _=>false) (fun _ _ _ _ _=>false) (fun _ _=>false) (fun _ _=>false) (false) (fun _ _ _ _=>false) b) (fun b=>@RV.rec (fun _=>Bool) (fun _ _=>false) (fun _=>false) (false) (false) (true) (false) (false) (fun _ _=>false) (fun _ _ _ _=>false) (fun _ _ _ _ _ _=>false) (fun _=>false) (fun _=>false) (fun _=>false) (fun _ _ _ _ _=>false) (fun _ _=>false) (fun _ _=>false) (false) (fun _ _ _ _=>false) b) (fun b=>@RV.rec (fun _=>Bool) (fun _ _=>false) (fun _=>false) (false) (false) (false) (true) (false) (fun _ _=>false) (fun _ _ _ _=>false) (fun _ _ _ _ _ _=>false) (fun _=>false) (fun _=>false) (fun _=>false) (fun _ _ _ _ _=>false) (fun _ _=>false) (fun _ _=>false) (false) (fun _ _ _ _=>false) b) (fun b=>@RV.rec (fun _=>Bool) (fun _ _=>false) (fun _=>false) (false) (false) (false) (false) (true) (fun _ _=>false) (fun _ _ _ _=>false) (fun _ _ _ _ _ _=>false) (fun _=>false) (fun _=>false) (fun _=>false) (fun _ _ _ _ _=>false) (fun _ _=>false) (fun _ _=>false) (false) (fun _ _ _ _=>false) b) (fun l q b=>@RV.rec (fun _=>Bool) (fun _ _=>false) (fun _=>false) (false) (false) (false) (false) (false) (fun l2 q2=>bAnd (Nat.beq l l2) (Nat.beq q q2)) (fun _ _ _ _=>false) (fun _ _ _ _ _ _=>false) (fun _=>false) (fun _=>false) (fun _=>false) (fun _ _ _ _ _=>false) (fun _ _=>false) (fun _ _=>false) (false) (fun _ _ _ _=>false) b) (fun l q n c b=>@RV.rec (fun _=>Bool) (fun _ _=>false) (fun _=>false) (false) (false) (false) (false) (false) (fun _ _=>false) (fun l2 q2 n2 c2=>bAnd (Nat.beq l l2) (bAnd (Nat.beq q q2) (bAnd (Nat.beq n n2) (Nat.beq c c2)))) (fun _ _ _ _ _ _=>false) (fun _=>false) (fun _=>false) (fun _=>false) (fun _ _ _ _ _=>false) (fun _ _=>false) (fun _ _=>false) (false) (fun _ _ _ _=>false) b) (fun l e a d w z b=>@RV.rec (fun _=>Bool) (fun _ _=>false) (fun _=>false) (false) (false) (false) (false) (false) (fun _ _=>false) (fun _ _ _ _=>false) (fun l2 e2 a2 d2 w2 z2=>bAnd (Nat.beq l l2) (bAnd (Nat.beq e e2) (bAnd (Nat.beq a a2) (bAnd (Nat.beq d d2) (bAnd (bEqF w w2) (Nat.beq z z2)))))) (fun _=>false) (fun _=>false) (fun _=>false) (fun _ _ _ _ _=>false) (fun _ _=>false) (fun _ _=>false) (false) (fun _ _ _ _=>false) b) (fun l b=>@RV.rec (fun _=>Bool) (fun _ _=>false) (fun _=>false) (false) (false) (false) (false) (false) (fun _ _=>false) (fun _ _ _ _=>false) (fun _ _ _ _ _ _=>false) (fun l2=>Nat.beq l l2) (fun _=>false) (fun _=>false) (fun _ _ _ _ _=>false) (fun _ _=>false) (fun _ _=>false) (false) (fun _ _ _ _=>false) b) (fun l b=>@RV.rec (fun _=>Bool) (fun _ _=>false) (fun _=>false) (false) (false) (false) (false) (false) (fun _ _=>false) (fun _ _ _ _=>false) (fun _ _ _ _ _ _=>false) (fun _=>false) (fun l2=>Nat.beq l l2) (fun _=>false) (fun _ _ _ _ _=>false) (fun _ _=>false) (fun _ _=>false) (false) (fun _ _ _ _=>false) b) (fun l b=>@RV.rec (fun _=>Bool) (fun _ _=>false) (fun _=>false) (false) (false) (false) (false) (false) (fun _ _=>false) (fun _ _ _ _=>false) (fun _ _ _ _ _ _=>false) (fun _=>false) (fun _=>false) (fun l2=>Nat.beq l l2) (fun _ _ _ _ _=>false) (fun _ _=>false) (fun _ _=>false) (false) (fun _ _ _ _=>false) b) (fun fi a c iha ihc b=>@RV.rec (fun _=>Bool) (fun _ _=>false) (fun _=>false) (false) (false) (false) (false) (false) (fun _ _=>false) (fun _ _ _ _=>false) (fun _ _ _ _ _ _=>false) (fun _=>false) (fun _=>false) (fun _=>false) (fun fi2 a2 c2 _ _=>bAnd (Nat.beq fi fi2) (bAnd (iha a2) (ihc c2))) (fun _ _=>false) (fun _ _=>false) (false) (fun _ _ _ _=>false) b) (fun c ih b=>@RV.rec (fun _=>Bool) (fun _ _=>false) (fun _=>false) (false) (false) (false) (false) (false) (fun _ _=>false) (fun _ _ _ _=>false) (fun _ _ _ _ _ _=>false) (fun _=>false) (fun _=>false) (fun _=>false) (fun _ _ _ _ _=>false) (fun c2 _=>ih c2) (fun _ _=>false) (false) (fun _ _ _ _=>false) b) (fun c ih b=>@RV.rec (fun _=>Bool) (fun _ _=>false) (fun _=>false) (false) (false) (false) (false) (false) (fun _ _=>false) (fun _ _ _ _=>false) (fun _ _ _ _ _ _=>false) (fun _=>false) (fun _=>false) (fun _=>false) (fun _ _ _ _ _=>false) (fun _ _=>false) (fun c2 _=>ih c2) (false) (fun _ _ _ _=>false) b) (fun b=>@RV.rec (fun _=>Bool) (fun _ _=>false) (fun _=>false) (false) (false) (false) (false) (false) (fun _ _=>false) (fun _ _ _ _=>false) (fun _ _ _ _ _ _=>false) (fun _=>false) (fun _=>false) (fun _=>false) (fun _ _ _ _ _=>false) (fun _ _=>false) (fun _ _=>false) (true) (fun _ _ _ _=>false) b) (fun a r iha ihr b=>@RV.rec (fun _=>Bool) (fun _ _=>false) (fun _=>false) (false) (false) (false) (false) (false) (fun _ _=>false) (fun _ _ _ _=>false) (fun _ _ _ _ _ _=>false) (fun _=>false) (fun _=>false) (fun _=>false) (fun _ _ _ _ _=>false) (fun _ _=>false) (fun _ _=>false) (false) (fun a2 r2 _ _=>bAnd (iha a2) (ihr r2)) b) a
def u3:∀ {a b:RV},a.eqb b=true→a=b:=by
 intro a;induction a<;>intro b h<;>cases b<;>first|rfl|(cases (show false=true from h);done)|skip
 case i k j k2 j2=>have h:=v4.1 (show bAnd (kEqF k k2) (iEq j j2)=true from h);rw[kEqF_eq,z3p] at h;simp only[yyu,beq_iff_eq] at h;rw[h.1,h.2]
 case b x x2=>have h:bEqF x x2=true:=h;rw[j4i] at h;rw[eq_of_beq h]
 case p l q l2 q2=>have h:=v4.1 (show bAnd (Nat.beq l l2) (Nat.beq q q2)=true from h);rw[yyi h.1,yyi h.2]
 case s l q n c l2 q2 n2 c2=>have h:bAnd (Nat.beq l l2) (bAnd (Nat.beq q q2) (bAnd (Nat.beq n n2) (Nat.beq c c2)))=true:=h;simp only[v4] at h;rw[yyi h.1,yyi h.2.1,yyi h.2.2.1,yyi h.2.2.2]
 case o l e a d w z l2 e2 a2 d2 w2 z2=>have h:bAnd (Nat.beq l l2) (bAnd (Nat.beq e e2) (bAnd (Nat.beq a a2) (bAnd (Nat.beq d d2) (bAnd (bEqF w w2) (Nat.beq z z2)))))=true:=h;simp only[v4,j4i,beq_iff_eq] at h;rw[yyi h.1,yyi h.2.1,yyi h.2.2.1,yyi h.2.2.2.1,h.2.2.2.2.1,yyi h.2.2.2.2.2]
 case m l l2=>rw[yyi (show Nat.beq l l2=true from h)]
 case it l l2=>rw[yyi (show Nat.beq l l2=true from h)]
 case y l l2=>rw[yyi (show Nat.beq l l2=true from h)]
 case f fi a c iha ihc fi2 a2 c2=>have h:bAnd (Nat.beq fi fi2) (bAnd (a.eqb a2) (c.eqb c2))=true:=h;simp only[v4] at h;rw[yyi h.1,iha h.2.1,ihc h.2.2]
 case g c ih c2=>rw[ih (show c.eqb c2=true from h)]
 case t c ih c2=>rw[ih (show c.eqb c2=true from h)]
 case cons a r iha ihr a2 r2=>have h:=v4.1 (show bAnd (a.eqb a2) (r.eqb r2)=true from h);rw[iha h.1,ihr h.2]
inductive Tr
 |lf (v:RV)
 |nd (l r:Tr)
def Tr.get(t:Tr):Nat→RV:=@Tr.rec (fun _=>Nat→RV) (fun v _=>v) (fun _ _ l r i=>@Bool.rec (fun _=>RV) (r (Nat.div i 2)) (l (Nat.div i 2)) (Nat.beq (Nat.mod i 2) 0)) t
def j4t(v:RV)(i:Nat):(Tr.lf v).get i=v:=rfl
def q3i(l r:Tr)(i:Nat):(Tr.nd l r).get i=bif Nat.beq (i % 2) 0 then l.get (i / 2) else r.get (i / 2):=by show @Bool.rec (fun _=>RV) (r.get (i / 2)) (l.get (i / 2)) (Nat.beq (i % 2) 0)=_;cases Nat.beq (i % 2) 0<;>rfl
def Tr.mk(l:Tr):Tr→Tr:=@Tr.rec (fun _=>Tr→Tr) (fun a r=>@Tr.rec (fun _=>RV→Tr) (fun b a=>@Bool.rec (fun _=>Tr) (.nd (.lf a) (.lf b)) (.lf a) (a.eqb b)) (fun l' r' _ _ a=>.nd (.lf a) (.nd l' r')) r a) (fun l1 l2 _ _ r=>.nd (.nd l1 l2) r) l
def Tr.left(t:Tr):Tr:=@Tr.rec (fun _=>Tr) (fun v=>.lf v) (fun l _ _ _=>l) t
def Tr.right(t:Tr):Tr:=@Tr.rec (fun _=>Tr) (fun v=>.lf v) (fun _ r _ _=>r) t
def Tr.set(d:Nat):Tr→Nat→RV→Tr:=@Nat.rec (fun _=>Tr→Nat→RV→Tr) (fun _ _ v=>.lf v) (fun _ ih t i v=>@Bool.rec (fun _=>Tr) (Tr.mk t.left (ih t.right (Nat.div i 2) v)) (Tr.mk (ih t.left (Nat.div i 2) v) t.right) (Nat.beq (Nat.mod i 2) 0)) d
def Tr.set_0(t:Tr)(i:Nat)(v:RV):Tr.set 0 t i v=.lf v:=rfl
def Tr.set_s(d:Nat)(t:Tr)(i:Nat)(v:RV):Tr.set (d+1) t i v=bif Nat.beq (i % 2) 0 then Tr.mk (Tr.set d t.left (i / 2) v) t.right else Tr.mk t.left (Tr.set d t.right (i / 2) v):=by show @Bool.rec (fun _=>Tr) (Tr.mk t.left (Tr.set d t.right (i / 2) v)) (Tr.mk (Tr.set d t.left (i / 2) v) t.right) (Nat.beq (i % 2) 0)=_;cases Nat.beq (i % 2) 0<;>rfl
def z36(l r:Tr)(i:Nat):(Tr.mk l r).get i=bif Nat.beq (i % 2) 0 then l.get (i / 2) else r.get (i / 2):=by
 cases l with
 |nd l1 l2=>exact q3i _ _ _
 |lf a=>
  cases r with
  |nd r1 r2=>exact q3i _ _ _
  |lf b=>
   show(@Bool.rec (fun _=>Tr) (.nd (.lf a) (.lf b)) (.lf a) (a.eqb b):Tr).get i=_;cases h:a.eqb b
   ·exact q3i _ _ _
   ·have:=u3 h;subst this;show a=bif Nat.beq (i % 2) 0 then a else a;cases Nat.beq (i % 2) 0<;>rfl
def q50(t:Tr)(i:Nat):t.get i=bif Nat.beq (i % 2) 0 then t.left.get (i / 2) else t.right.get (i / 2):=by
 cases t with
 |lf v=>show v=bif Nat.beq (i % 2) 0 then v else v;cases Nat.beq (i % 2) 0<;>rfl
 |nd l r=>exact q3i _ _ _
def q6x:∀ {d:Nat} {t:Tr} {i j:Nat} {v:RV},i<2 ^ d→j<2 ^ d→(Tr.set d t i v).get j=if j=i then v else t.get j
 |0,t,i,j,v,hi,hj=>by
  have:j=i:=by simp at hi hj;omega
  rw[Tr.set_0,j4t,if_pos this]
 |d+1,t,i,j,v,hi,hj=>by
  have hi':i / 2<2 ^ d:=by rw[Nat.pow_succ] at hi;omega
  have hj':j / 2<2 ^ d:=by rw[Nat.pow_succ] at hj;omega
  rw[Tr.set_s];cases hb:Nat.beq (i % 2) 0
  ·have h1:i % 2=1:=by
    have:¬ i % 2=0:=fun h=>by rw[h] at hb;cases hb
    omega
   rw[cond_false,z36];cases hc:Nat.beq (j % 2) 0
   ·have h2:j % 2=1:=by
     have:¬ j % 2=0:=fun h=>by rw[h] at hc;cases hc
     omega
    rw[cond_false,q6x hi' hj',q50 t j,hc,cond_false];by_cases e:j=i
    ·rw[if_pos e,if_pos (by rw[e])]
    ·rw[if_neg e,if_neg (by omega)]
   ·have h2:j % 2=0:=yyi hc;rw[cond_true,q50 t j,hc,cond_true,if_neg (by omega)]
  ·have h1:i % 2=0:=yyi hb;rw[cond_true,z36];cases hc:Nat.beq (j % 2) 0
   ·have h2:j % 2=1:=by
     have:¬ j % 2=0:=fun h=>by rw[h] at hc;cases hc
     omega
    rw[cond_false,q50 t j,hc,cond_false,if_neg (by omega)]
   ·have h2:j % 2=0:=yyi hc;rw[cond_true,q6x hi' hj',q50 t j,hc,cond_true];by_cases e:j=i
    ·rw[if_pos e,if_pos (by rw[e])]
    ·rw[if_neg e,if_neg (by omega)]
def Tr.cut(t:Tr)(n:Nat):Nat→RV:=@Nat.rec (fun _=>Nat→RV) (fun _=>.nil) (fun _ ih i=>.cons (t.get i) (ih (Nat.succ i))) n
def z2m(t:Tr)(n i:Nat):t.cut (n+1) i=.cons (t.get i) (t.cut n (i+1)):=rfl
def Tr.put(d:Nat)(r:RV):Tr→Nat→Tr:=@RV.rec (fun _=>Tr→Nat→Tr) (fun _ _ t _=>t) (fun _ t _=>t) (fun t _=>t) (fun t _=>t) (fun t _=>t) (fun t _=>t) (fun t _=>t) (fun _ _ t _=>t) (fun _ _ _ _ t _=>t) (fun _ _ _ _ _ _ t _=>t) (fun _ t _=>t) (fun _ t _=>t) (fun _ t _=>t) (fun _ _ _ _ _ t _=>t) (fun _ _ t _=>t) (fun _ _ t _=>t) (fun t _=>t) (fun a _ _ ih t i=>ih (Tr.set d t i a) (Nat.succ i)) r
def Tr.put_c(d:Nat)(a r:RV)(t:Tr)(i:Nat):Tr.put d (.cons a r) t i=Tr.put d r (Tr.set d t i a) (i+1):=rfl
def RV.len(r:RV):Nat:=@RV.rec (fun _=>Nat) (fun _ _=>0) (fun _=>0) (0) (0) (0) (0) (0) (fun _ _=>0) (fun _ _ _ _=>0) (fun _ _ _ _ _ _=>0) (fun _=>0) (fun _=>0) (fun _=>0) (fun _ _ _ _ _=>0) (fun _ _=>0) (fun _ _=>0) (0) (fun _ _ _ ih=>Nat.succ ih) r
def f9(a r:RV):(RV.cons a r).len=r.len+1:=rfl
def RV.nth(r:RV):Nat→RV:=@RV.rec (fun _=>Nat→RV) (fun _ _ _=>.u) (fun _ _=>.u) (fun _=>.u) (fun _=>.u) (fun _=>.u) (fun _=>.u) (fun _=>.u) (fun _ _ _=>.u) (fun _ _ _ _ _=>.u) (fun _ _ _ _ _ _ _=>.u) (fun _ _=>.u) (fun _ _=>.u) (fun _ _=>.u) (fun _ _ _ _ _ _=>.u) (fun _ _ _=>.u) (fun _ _ _=>.u) (fun _=>.u) (fun a _ _ ih k=>@Nat.rec (fun _=>RV) a (fun j _=>ih j) k) r
def q7z(a r:RV)(k:Nat):(RV.cons a r).nth (k+1)=r.nth k:=rfl
def j8(ρ:Env):∀ r:RV,(r.cl ρ).length=r.len
 |.cons a r=>by rw[f9,RV.cl,List.length_cons,j8 ρ r]
 |.i ..|.b _|.np|.ns|.fz|.nm|.u|.nil|.p ..|.s ..|.m _|.it _|.y _|.o ..|.f ..|.g _|.t _=>rfl
def q0l(ρ:Env):∀ {r:RV} {i:Nat},i<r.len→(r.cl ρ)[i]?=some ((r.nth i).cv ρ)
 |.cons a r,0,_=>rfl
 |.cons a r,q+1,h=>by rw[q7z,RV.cl,yxi];exact q0l ρ (by rw[f9] at h;omega)
 |.i ..,_,h|.b _,_,h|.np,_,h|.ns,_,h|.fz,_,h|.nm,_,h|.u,_,h|.nil,_,h|.p ..,_,h|.s ..,_,h|.m _,_,h|.it _,_,h|.y _,_,h|.o ..,_,h|.f ..,_,h|.g _,_,h|.t _,_,h=>absurd h (Nat.not_lt_zero _)
def f6{n:Nat}:∀ {r:RV} {i:Nat},r.bd n→(r.nth i).bd n
 |.cons a r,0,h=>h.1
 |.cons a r,q+1,h=>f6 (r:=r) h.2
 |.i ..,_,_|.b _,_,_|.np,_,_|.ns,_,_|.fz,_,_|.nm,_,_|.u,_,_|.nil,_,_|.p ..,_,_|.s ..,_,_|.m _,_,_|.it _,_,_|.y _,_,_|.o ..,_,_|.f ..,_,_|.g _,_,_|.t _,_,_=>trivial
def q0b(t:Tr):∀ n i,(t.cut n i).len=n
 |0,_=>rfl
 |n+1,i=>by rw[z2m,f9,q0b t n (i+1)]
def z0n(t:Tr):∀ {n i j:Nat},j<n→(t.cut n i).nth j=t.get (i+j)
 |n+1,i,0,_=>rfl
 |n+1,i,j+1,h=>by rw[z2m,q7z,z0n t (by omega)];congr 1;omega
def q52{t:Tr}{m:Nat}:∀ {n i:Nat},(∀ j,i≤j→j<i+n→(t.get j).bd m)→(t.cut n i).bd m
 |0,_,_=>trivial
 |n+1,i,h=>⟨h i (yyn _) (by omega),q52 fun j h1 h2=>h j (by omega) (by omega)⟩
def n7{d:Nat}:∀ {r:RV} {t:Tr} {i j:Nat},i+r.len≤2 ^ d→j<2 ^ d→(Tr.put d r t i).get j=if i≤j∧j<i+r.len then r.nth (j-i) else t.get j
 |.cons a r,t,i,j,h,hj=>by
  have hl:(RV.cons a r).len=r.len+1:=rfl;rw[hl] at h;rw[Tr.put_c,n7 (by omega) hj,q6x (by omega) hj];by_cases e:j=i
  ·subst e;rw[if_neg (by omega),if_pos rfl,if_pos (by omega),Nat.sub_self];rfl
  ·rw[if_neg e];by_cases e2:i+1≤j∧j<i+1+r.len
   ·rw[if_pos e2,if_pos (by omega),show j-i=(j-(i+1))+1 by omega];rfl
   ·rw[if_neg e2,if_neg (by omega)]
 |.i ..,t,i,j,_,_|.b _,t,i,j,_,_|.np,t,i,j,_,_|.ns,t,i,j,_,_|.fz,t,i,j,_,_|.nm,t,i,j,_,_|.u,t,i,j,_,_|.nil,t,i,j,_,_|.p ..,t,i,j,_,_|.s ..,t,i,j,_,_
 |.m _,t,i,j,_,_|.it _,t,i,j,_,_|.y _,t,i,j,_,_|.o ..,t,i,j,_,_|.f ..,t,i,j,_,_|.g _,t,i,j,_,_|.t _,t,i,j,_,_=>by rw[if_neg (fun h=>absurd (Nat.lt_of_le_of_lt h.1 h.2) (Nat.lt_irrefl _))];rfl
def RV.alike(v r:RV):Bool:=@RV.rec (fun _=>Bool) (fun _ _=>true) (fun _=>true) (true) (true) (true) (true) (true) (fun _ _=>true) (fun _ _ _ _=>true) (fun _ _ _ _ _ _=>true) (fun _=>true) (fun _=>true) (fun _=>true) (fun _ _ _ _ _=>true) (fun _ _=>true) (fun _ _=>true) (true) (fun a _ _ ih=>bAnd (v.eqb a) ih) r
def q7f{v:RV}:∀ {r:RV} {i:Nat},v.alike r=true→i<r.len→r.nth i=v
 |.cons a r,0,h,_=>(u3 (v4.1 (show bAnd (v.eqb a) (v.alike r)=true from h)).1).symm
 |.cons a r,q+1,h,hi=>q7f (r:=r) (v4.1 (show bAnd (v.eqb a) (v.alike r)=true from h)).2 (by rw[f9] at hi;omega)
 |.i ..,_,_,h|.b _,_,_,h|.np,_,_,h|.ns,_,_,h|.fz,_,_,h|.nm,_,_,h|.u,_,_,h|.nil,_,_,h|.p ..,_,_,h|.s ..,_,_,h|.m _,_,_,h|.it _,_,_,h|.y _,_,_,h|.o ..,_,_,h|.f ..,_,_,h|.g _,_,_,h|.t _,_,_,h=>absurd h (Nat.not_lt_zero _)
def Tr.ofL(d:Nat)(r:RV):Tr:=
 match r with
 |.cons a b=>bif a.alike b then .lf a else Tr.put d (.cons a b) (.lf a) 0
 |_=>.lf .u
def q6y{r:RV}(h:r.len≤2 ^ d)(hi:i<r.len):(Tr.ofL d r).get i=r.nth i:=by
 unfold Tr.ofL;split
 ·rename_i a b;cases ha:RV.alike a b
  ·rw[cond_false,n7 (by omega) (by omega),if_pos (by omega),Nat.sub_zero]
  ·rw[cond_true];cases i with
   |zero=>rfl
   |succ i=>rw[f9] at hi;exact(q7f ha (by omega)).symm
 ·rename_i hn;cases r<;>first|(exact absurd rfl (hn _ _))|(exact absurd hi (Nat.not_lt_zero _))
inductive N8(β:Type)
 |e
 |n (a0 a1 a2 a3 a4 a5 a6 a7:β)
section
variable {β α:Type}
def N8.vals(z:β):N8 β→List β
 |.e=>[z,z,z,z,z,z,z,z]
 |.n a0 a1 a2 a3 a4 a5 a6 a7=>[a0,a1,a2,a3,a4,a5,a6,a7]
inductive Bx(α:Type)
 |mk (a:α)
def Bx.out:Bx α→α
 |.mk a=>a
def nthB(d:α)(l:List α):Nat→α:=@List.rec _ (fun _=>Nat→α) (fun _=>d) (fun a _ ih n=>@Nat.rec (fun _=>α) a (fun k _=>ih k) n) l
def g8_(z:β):Bx (N8 β→β):=.mk fun _=>z
def p8_:Bx ((β→β)→N8 β→N8 β):=.mk fun _ t=>t
def tg8(z:β):List (Bx (N8 β→β)):=[.mk fun t=>@N8.rec _ (fun _=>β) z (fun a0 a1 a2 a3 a4 a5 a6 a7=>a0) t,
 .mk fun t=>@N8.rec _ (fun _=>β) z (fun a0 a1 a2 a3 a4 a5 a6 a7=>a1) t,
 .mk fun t=>@N8.rec _ (fun _=>β) z (fun a0 a1 a2 a3 a4 a5 a6 a7=>a2) t,
 .mk fun t=>@N8.rec _ (fun _=>β) z (fun a0 a1 a2 a3 a4 a5 a6 a7=>a3) t,
 .mk fun t=>@N8.rec _ (fun _=>β) z (fun a0 a1 a2 a3 a4 a5 a6 a7=>a4) t,
 .mk fun t=>@N8.rec _ (fun _=>β) z (fun a0 a1 a2 a3 a4 a5 a6 a7=>a5) t,
 .mk fun t=>@N8.rec _ (fun _=>β) z (fun a0 a1 a2 a3 a4 a5 a6 a7=>a6) t,
 .mk fun t=>@N8.rec _ (fun _=>β) z (fun a0 a1 a2 a3 a4 a5 a6 a7=>a7) t]
def tp8(z:β):List (Bx ((β→β)→N8 β→N8 β)):=[.mk fun f t=>@N8.rec _ (fun _=>(β→β)→N8 β) (fun f=>.n (f z) z z z z z z z) (fun a0 a1 a2 a3 a4 a5 a6 a7 f=>.n (f a0) a1 a2 a3 a4 a5 a6 a7) t f,
 .mk fun f t=>@N8.rec _ (fun _=>(β→β)→N8 β) (fun f=>.n z (f z) z z z z z z) (fun a0 a1 a2 a3 a4 a5 a6 a7 f=>.n a0 (f a1) a2 a3 a4 a5 a6 a7) t f,
 .mk fun f t=>@N8.rec _ (fun _=>(β→β)→N8 β) (fun f=>.n z z (f z) z z z z z) (fun a0 a1 a2 a3 a4 a5 a6 a7 f=>.n a0 a1 (f a2) a3 a4 a5 a6 a7) t f,
 .mk fun f t=>@N8.rec _ (fun _=>(β→β)→N8 β) (fun f=>.n z z z (f z) z z z z) (fun a0 a1 a2 a3 a4 a5 a6 a7 f=>.n a0 a1 a2 (f a3) a4 a5 a6 a7) t f,
 .mk fun f t=>@N8.rec _ (fun _=>(β→β)→N8 β) (fun f=>.n z z z z (f z) z z z) (fun a0 a1 a2 a3 a4 a5 a6 a7 f=>.n a0 a1 a2 a3 (f a4) a5 a6 a7) t f,
 .mk fun f t=>@N8.rec _ (fun _=>(β→β)→N8 β) (fun f=>.n z z z z z (f z) z z) (fun a0 a1 a2 a3 a4 a5 a6 a7 f=>.n a0 a1 a2 a3 a4 (f a5) a6 a7) t f,
 .mk fun f t=>@N8.rec _ (fun _=>(β→β)→N8 β) (fun f=>.n z z z z z z (f z) z) (fun a0 a1 a2 a3 a4 a5 a6 a7 f=>.n a0 a1 a2 a3 a4 a5 (f a6) a7) t f,
 .mk fun f t=>@N8.rec _ (fun _=>(β→β)→N8 β) (fun f=>.n z z z z z z z (f z)) (fun a0 a1 a2 a3 a4 a5 a6 a7 f=>.n a0 a1 a2 a3 a4 a5 a6 (f a7)) t f]
def g8_ok(i:Nat)(z:β)(t:N8 β):(nthB (g8_ z) (tg8 z) i).out t=(t.vals z).getD i z:=by
 match i with
 |0|1|2|3|4|5|6|7=>cases t<;>rfl
 |k+8=>cases t<;>rfl
def p8_ok(i:Nat)(z:β)(f:β→β)(t:N8 β):((nthB p8_ (tp8 z) i).out f t).vals z=(t.vals z).set i (f ((t.vals z).getD i z)):=by
 match i with
 |0|1|2|3|4|5|6|7=>cases t<;>rfl
 |k+8=>cases t<;>rfl
def z01(z:β)(t:N8 β):(t.vals z).length=8:=by cases t<;>rfl
def q1b{l:List β}{x z:β}:(l.set i x).getD j z=if i=j∧i<l.length then x else l.getD j z:=by
 simp only[yyj,List.getElem?_set];by_cases h:i=j
 ·subst h;by_cases hl:i<l.length
  ·simp[hl]
  ·simp[hl]
 ·simp[h]
end
inductive N16(β:Type)
 |e
 |n (a0 a1 a2 a3 a4 a5 a6 a7 a8 a9 a10 a11 a12 a13 a14 a15:β)
section
variable {β α:Type}
def N16.vals(z:β):N16 β→List β
 |.e=>[z,z,z,z,z,z,z,z,z,z,z,z,z,z,z,z]
 |.n a0 a1 a2 a3 a4 a5 a6 a7 a8 a9 a10 a11 a12 a13 a14 a15=>[a0,a1,a2,a3,a4,a5,a6,a7,a8,a9,a10,a11,a12,a13,a14,a15]
def g16_(z:β):Bx (N16 β→β):=.mk fun _=>z
def p16_:Bx ((β→β)→N16 β→N16 β):=.mk fun _ t=>t
def tg16(z:β):List (Bx (N16 β→β)):=[.mk fun t=>@N16.rec _ (fun _=>β) z (fun a0 a1 a2 a3 a4 a5 a6 a7 a8 a9 a10 a11 a12 a13 a14 a15=>a0) t,
 .mk fun t=>@N16.rec _ (fun _=>β) z (fun a0 a1 a2 a3 a4 a5 a6 a7 a8 a9 a10 a11 a12 a13 a14 a15=>a1) t,
 .mk fun t=>@N16.rec _ (fun _=>β) z (fun a0 a1 a2 a3 a4 a5 a6 a7 a8 a9 a10 a11 a12 a13 a14 a15=>a2) t,
 .mk fun t=>@N16.rec _ (fun _=>β) z (fun a0 a1 a2 a3 a4 a5 a6 a7 a8 a9 a10 a11 a12 a13 a14 a15=>a3) t,
 .mk fun t=>@N16.rec _ (fun _=>β) z (fun a0 a1 a2 a3 a4 a5 a6 a7 a8 a9 a10 a11 a12 a13 a14 a15=>a4) t,
 .mk fun t=>@N16.rec _ (fun _=>β) z (fun a0 a1 a2 a3 a4 a5 a6 a7 a8 a9 a10 a11 a12 a13 a14 a15=>a5) t,
 .mk fun t=>@N16.rec _ (fun _=>β) z (fun a0 a1 a2 a3 a4 a5 a6 a7 a8 a9 a10 a11 a12 a13 a14 a15=>a6) t,
 .mk fun t=>@N16.rec _ (fun _=>β) z (fun a0 a1 a2 a3 a4 a5 a6 a7 a8 a9 a10 a11 a12 a13 a14 a15=>a7) t,
 .mk fun t=>@N16.rec _ (fun _=>β) z (fun a0 a1 a2 a3 a4 a5 a6 a7 a8 a9 a10 a11 a12 a13 a14 a15=>a8) t,
 .mk fun t=>@N16.rec _ (fun _=>β) z (fun a0 a1 a2 a3 a4 a5 a6 a7 a8 a9 a10 a11 a12 a13 a14 a15=>a9) t,
 .mk fun t=>@N16.rec _ (fun _=>β) z (fun a0 a1 a2 a3 a4 a5 a6 a7 a8 a9 a10 a11 a12 a13 a14 a15=>a10) t,
 .mk fun t=>@N16.rec _ (fun _=>β) z (fun a0 a1 a2 a3 a4 a5 a6 a7 a8 a9 a10 a11 a12 a13 a14 a15=>a11) t,
 .mk fun t=>@N16.rec _ (fun _=>β) z (fun a0 a1 a2 a3 a4 a5 a6 a7 a8 a9 a10 a11 a12 a13 a14 a15=>a12) t,
 .mk fun t=>@N16.rec _ (fun _=>β) z (fun a0 a1 a2 a3 a4 a5 a6 a7 a8 a9 a10 a11 a12 a13 a14 a15=>a13) t,
 .mk fun t=>@N16.rec _ (fun _=>β) z (fun a0 a1 a2 a3 a4 a5 a6 a7 a8 a9 a10 a11 a12 a13 a14 a15=>a14) t,
 .mk fun t=>@N16.rec _ (fun _=>β) z (fun a0 a1 a2 a3 a4 a5 a6 a7 a8 a9 a10 a11 a12 a13 a14 a15=>a15) t]
def tp16(z:β):List (Bx ((β→β)→N16 β→N16 β)):=[.mk fun f t=>@N16.rec _ (fun _=>(β→β)→N16 β) (fun f=>.n (f z) z z z z z z z z z z z z z z z) (fun a0 a1 a2 a3 a4 a5 a6 a7 a8 a9 a10 a11 a12 a13 a14 a15 f=>.n (f a0) a1 a2 a3 a4 a5 a6 a7 a8 a9 a10 a11 a12 a13 a14 a15) t f,
 .mk fun f t=>@N16.rec _ (fun _=>(β→β)→N16 β) (fun f=>.n z (f z) z z z z z z z z z z z z z z) (fun a0 a1 a2 a3 a4 a5 a6 a7 a8 a9 a10 a11 a12 a13 a14 a15 f=>.n a0 (f a1) a2 a3 a4 a5 a6 a7 a8 a9 a10 a11 a12 a13 a14 a15) t f,
 .mk fun f t=>@N16.rec _ (fun _=>(β→β)→N16 β) (fun f=>.n z z (f z) z z z z z z z z z z z z z) (fun a0 a1 a2 a3 a4 a5 a6 a7 a8 a9 a10 a11 a12 a13 a14 a15 f=>.n a0 a1 (f a2) a3 a4 a5 a6 a7 a8 a9 a10 a11 a12 a13 a14 a15) t f,
 .mk fun f t=>@N16.rec _ (fun _=>(β→β)→N16 β) (fun f=>.n z z z (f z) z z z z z z z z z z z z) (fun a0 a1 a2 a3 a4 a5 a6 a7 a8 a9 a10 a11 a12 a13 a14 a15 f=>.n a0 a1 a2 (f a3) a4 a5 a6 a7 a8 a9 a10 a11 a12 a13 a14 a15) t f,
 .mk fun f t=>@N16.rec _ (fun _=>(β→β)→N16 β) (fun f=>.n z z z z (f z) z z z z z z z z z z z) (fun a0 a1 a2 a3 a4 a5 a6 a7 a8 a9 a10 a11 a12 a13 a14 a15 f=>.n a0 a1 a2 a3 (f a4) a5 a6 a7 a8 a9 a10 a11 a12 a13 a14 a15) t f,
 .mk fun f t=>@N16.rec _ (fun _=>(β→β)→N16 β) (fun f=>.n z z z z z (f z) z z z z z z z z z z) (fun a0 a1 a2 a3 a4 a5 a6 a7 a8 a9 a10 a11 a12 a13 a14 a15 f=>.n a0 a1 a2 a3 a4 (f a5) a6 a7 a8 a9 a10 a11 a12 a13 a14 a15) t f,
 .mk fun f t=>@N16.rec _ (fun _=>(β→β)→N16 β) (fun f=>.n z z z z z z (f z) z z z z z z z z z) (fun a0 a1 a2 a3 a4 a5 a6 a7 a8 a9 a10 a11 a12 a13 a14 a15 f=>.n a0 a1 a2 a3 a4 a5 (f a6) a7 a8 a9 a10 a11 a12 a13 a14 a15) t f,
 .mk fun f t=>@N16.rec _ (fun _=>(β→β)→N16 β) (fun f=>.n z z z z z z z (f z) z z z z z z z z) (fun a0 a1 a2 a3 a4 a5 a6 a7 a8 a9 a10 a11 a12 a13 a14 a15 f=>.n a0 a1 a2 a3 a4 a5 a6 (f a7) a8 a9 a10 a11 a12 a13 a14 a15) t f,
 .mk fun f t=>@N16.rec _ (fun _=>(β→β)→N16 β) (fun f=>.n z z z z z z z z (f z) z z z z z z z) (fun a0 a1 a2 a3 a4 a5 a6 a7 a8 a9 a10 a11 a12 a13 a14 a15 f=>.n a0 a1 a2 a3 a4 a5 a6 a7 (f a8) a9 a10 a11 a12 a13 a14 a15) t f,
 .mk fun f t=>@N16.rec _ (fun _=>(β→β)→N16 β) (fun f=>.n z z z z z z z z z (f z) z z z z z z) (fun a0 a1 a2 a3 a4 a5 a6 a7 a8 a9 a10 a11 a12 a13 a14 a15 f=>.n a0 a1 a2 a3 a4 a5 a6 a7 a8 (f a9) a10 a11 a12 a13 a14 a15) t f,
 .mk fun f t=>@N16.rec _ (fun _=>(β→β)→N16 β) (fun f=>.n z z z z z z z z z z (f z) z z z z z) (fun a0 a1 a2 a3 a4 a5 a6 a7 a8 a9 a10 a11 a12 a13 a14 a15 f=>.n a0 a1 a2 a3 a4 a5 a6 a7 a8 a9 (f a10) a11 a12 a13 a14 a15) t f,
 .mk fun f t=>@N16.rec _ (fun _=>(β→β)→N16 β) (fun f=>.n z z z z z z z z z z z (f z) z z z z) (fun a0 a1 a2 a3 a4 a5 a6 a7 a8 a9 a10 a11 a12 a13 a14 a15 f=>.n a0 a1 a2 a3 a4 a5 a6 a7 a8 a9 a10 (f a11) a12 a13 a14 a15) t f,
 .mk fun f t=>@N16.rec _ (fun _=>(β→β)→N16 β) (fun f=>.n z z z z z z z z z z z z (f z) z z z) (fun a0 a1 a2 a3 a4 a5 a6 a7 a8 a9 a10 a11 a12 a13 a14 a15 f=>.n a0 a1 a2 a3 a4 a5 a6 a7 a8 a9 a10 a11 (f a12) a13 a14 a15) t f,
 .mk fun f t=>@N16.rec _ (fun _=>(β→β)→N16 β) (fun f=>.n z z z z z z z z z z z z z (f z) z z) (fun a0 a1 a2 a3 a4 a5 a6 a7 a8 a9 a10 a11 a12 a13 a14 a15 f=>.n a0 a1 a2 a3 a4 a5 a6 a7 a8 a9 a10 a11 a12 (f a13) a14 a15) t f,
 .mk fun f t=>@N16.rec _ (fun _=>(β→β)→N16 β) (fun f=>.n z z z z z z z z z z z z z z (f z) z) (fun a0 a1 a2 a3 a4 a5 a6 a7 a8 a9 a10 a11 a12 a13 a14 a15 f=>.n a0 a1 a2 a3 a4 a5 a6 a7 a8 a9 a10 a11 a12 a13 (f a14) a15) t f,
 .mk fun f t=>@N16.rec _ (fun _=>(β→β)→N16 β) (fun f=>.n z z z z z z z z z z z z z z z (f z)) (fun a0 a1 a2 a3 a4 a5 a6 a7 a8 a9 a10 a11 a12 a13 a14 a15 f=>.n a0 a1 a2 a3 a4 a5 a6 a7 a8 a9 a10 a11 a12 a13 a14 (f a15)) t f]
def j22(i:Nat)(z:β)(t:N16 β):(nthB (g16_ z) (tg16 z) i).out t=(t.vals z).getD i z:=by
 match i with
 |0|1|2|3|4|5|6|7|8|9|10|11|12|13|14|15=>cases t<;>rfl
 |k+16=>cases t<;>rfl
def j1c(i:Nat)(z:β)(f:β→β)(t:N16 β):((nthB p16_ (tp16 z) i).out f t).vals z=(t.vals z).set i (f ((t.vals z).getD i z)):=by
 match i with
 |0|1|2|3|4|5|6|7|8|9|10|11|12|13|14|15=>cases t<;>rfl
 |k+16=>cases t<;>rfl
def q0w(z:β)(t:N16 β):(t.vals z).length=16:=by cases t<;>rfl
def q46(z:β)(k:Nat):((N16.e:N16 β).vals z).getD k z=z:=by
 match k with
 |0|1|2|3|4|5|6|7|8|9|10|11|12|13|14|15=>rfl
 |k+16=>rfl
end
section
variable {β α:Type}
abbrev G3(α:Type):=N16 (N8 (N8 α))
def G3.get(z:α)(t:G3 α)(i:Nat):α:=(((((t.vals .e).getD (i / 64) .e).vals .e).getD (i / 8 % 8) .e).vals z).getD (i % 8) z
def gg3(f2:N16 (N8 (N8 α))→N8 (N8 α))(f1:N8 (N8 α)→N8 α)(f0:N8 α→α)(t:G3 α):α:=f0 (f1 (f2 t))
def kst(v:α)(_:α):α:=v
def pp3(f2:(N8 (N8 α)→N8 (N8 α))→G3 α→G3 α)(f1:(N8 α→N8 α)→N8 (N8 α)→N8 (N8 α))(f0:(α→α)→N8 α→N8 α)(v:α)(t:G3 α):G3 α:=f2 (f1 (f0 (kst v))) t
def cg3(z:α)(i:Nat):Bx (G3 α→α):=@Bx.rec _ (fun _=>Bx (G3 α→α)) (fun f2=>@Bx.rec _ (fun _=>Bx (G3 α→α)) (fun f1=>@Bx.rec _ (fun _=>Bx (G3 α→α)) (fun f0=>.mk (gg3 f2 f1 f0)) (nthB (g8_ z) (tg8 z) (Nat.mod i 8))) (nthB (g8_ .e) (tg8 .e) (Nat.mod (Nat.div i 8) 8))) (nthB (g16_ .e) (tg16 .e) (Nat.div i 64))
def cp3(z:α)(i:Nat):Bx (α→G3 α→G3 α):=@Bx.rec _ (fun _=>Bx (α→G3 α→G3 α)) (fun f2=>@Bx.rec _ (fun _=>Bx (α→G3 α→G3 α)) (fun f1=>@Bx.rec _ (fun _=>Bx (α→G3 α→G3 α)) (fun f0=>.mk (pp3 f2 f1 f0)) (nthB p8_ (tp8 z) (Nat.mod i 8))) (nthB p8_ (tp8 .e) (Nat.mod (Nat.div i 8) 8))) (nthB p16_ (tp16 .e) (Nat.div i 64))
def cg3_ok(z:α)(i:Nat)(t:G3 α):(cg3 z i).out t=t.get z i:=by
 have h:(cg3 z i).out t=(nthB (g8_ z) (tg8 z) (i % 8)).out ((nthB (g8_ .e) (tg8 .e) (i / 8 % 8)).out ((nthB (g16_ .e) (tg16 .e) (i / 64)).out t)):=by unfold cg3;simp only[show Nat.mod i 8=i % 8 from rfl,show Nat.mod (Nat.div i 8) 8=i / 8 % 8 from rfl,show Nat.div i 64=i / 64 from rfl];generalize nthB (g16_ (.e:N8 (N8 α))) (tg16 .e) (i / 64)=b2;generalize nthB (g8_ (.e:N8 α)) (tg8 .e) (i / 8 % 8)=b1;generalize nthB (g8_ z) (tg8 z) (i % 8)=b0;cases b2;cases b1;cases b0;rfl
 rw[h,j22,g8_ok,g8_ok];rfl
def cp3_get(z:α)(i j:Nat)(v:α)(t:G3 α):((cp3 z i).out v t).get z j=if i=j∧i<1024 then v else t.get z j:=by
 have h:(cp3 z i).out v t=(nthB p16_ (tp16 .e) (i / 64)).out ((nthB p8_ (tp8 .e) (i / 8 % 8)).out ((nthB p8_ (tp8 z) (i % 8)).out (kst v))) t:=by unfold cp3;simp only[show Nat.mod i 8=i % 8 from rfl,show Nat.mod (Nat.div i 8) 8=i / 8 % 8 from rfl,show Nat.div i 64=i / 64 from rfl];generalize nthB p16_ (tp16 (.e:N8 (N8 α))) (i / 64)=b2;generalize nthB p8_ (tp8 (.e:N8 α)) (i / 8 % 8)=b1;generalize nthB p8_ (tp8 z) (i % 8)=b0;cases b2;cases b1;cases b0;rfl
 rw[h];unfold G3.get;rw[j1c,q1b,q0w];by_cases h2:i / 64=j / 64∧i / 64<16
 ·rw[if_pos h2,p8_ok,q1b,z01,h2.1];by_cases h1:i / 8 % 8=j / 8 % 8∧i / 8 % 8<8
  ·rw[if_pos h1,p8_ok,q1b,z01,h1.1];by_cases h0:i % 8=j % 8∧i % 8<8
   ·rw[if_pos h0,if_pos (by omega)];rfl
   ·rw[if_neg h0,if_neg (by omega)]
  ·rw[if_neg h1,if_neg (by omega)]
 ·rw[if_neg h2,if_neg (by omega)]
def q1z(z:α){t:G3 α}(h:¬ d<1024):t.get z d=z:=by
 unfold G3.get;have:(t.vals .e).getD (d / 64) .e=.e:=by rw[yyj,yxe (by rw[q0w];omega)];rfl
 rw[this];have:((N8.e:N8 (N8 α)).vals .e).getD (d / 8 % 8) .e=.e:=by
  have:d / 8 % 8<8:=Nat.mod_lt _ (by omega);generalize d / 8 % 8=k at this
  match k,this with
  |0,_|1,_|2,_|3,_|4,_|5,_|6,_|7,_=>rfl
 rw[this];have:d % 8<8:=Nat.mod_lt _ (by omega);generalize d % 8=k at this
 match k,this with
 |0,_|1,_|2,_|3,_|4,_|5,_|6,_|7,_=>rfl
def G3.ent(z:α)(p:α→Bool)(t:G3 α)(d:Nat):Option (Nat×α):=bif p (t.get z d) then none else some (d,t.get z d)
def G3.toL(z:α)(p:α→Bool)(t:G3 α):List (Nat×α):=(List.range 1024).filterMap (G3.ent z p t)
variable {z:α}{p:α→Bool}{t:G3 α}
def q9s:∀ (ds:List Nat) (d:Nat) (v:α),lk (ds.filterMap (G3.ent z p t)) d=some v→t.get z d=v∧p v=false
 |[],d,v,h=>by simp[lk] at h
 |k::r,d,v,h=>by
  rw[List.filterMap_cons] at h;cases hk:p (t.get z k)
  ·have e:G3.ent z p t k=some (k,t.get z k):=by simp[G3.ent,hk]
   rw[e] at h;simp only[lk] at h;by_cases hd:k=d
   ·rw[if_pos hd] at h;simp only[yya] at h;subst h;subst hd;exact⟨rfl,hk⟩
   ·rw[if_neg hd] at h;exact q9s r d v h
  ·have e:G3.ent z p t k=none:=by simp[G3.ent,hk]
   rw[e] at h;exact q9s r d v h
def q9t(d:Nat):∀ (ds:List Nat),d∈ds→p (t.get z d)=false→lk (ds.filterMap (G3.ent z p t)) d=some (t.get z d)
 |k::r,h,hn=>by
  rw[List.filterMap_cons];by_cases hd:k=d
  ·subst hd;have e:G3.ent z p t k=some (k,t.get z k):=by simp[G3.ent,hn]
   rw[e];simp[lk]
  ·have hr:d∈r:=by
    rcases yyk.1 h with h|h
    ·exact absurd h.symm hd
    ·exact h
   cases hk:p (t.get z k)
   ·have e:G3.ent z p t k=some (k,t.get z k):=by simp[G3.ent,hk]
    rw[e];simp only[lk,if_neg hd];exact q9t d r hr hn
   ·have e:G3.ent z p t k=none:=by simp[G3.ent,hk]
    rw[e];exact q9t d r hr hn
def z4g{v:α}(h:lk (t.toL z p) d=some v):t.get z d=v∧p v=false:=q9s _ d v h
def z4h(hz:p z=true)(h:p (t.get z d)=false):lk (t.toL z p) d=some (t.get z d):=by
 refine q9t d _ ?_ h;by_cases hd:d<1024
 ·exact yys.2 hd
 ·rw[q1z z hd,hz] at h;cases h
def z9q{q:Nat×α}(hz:p z=true)(h:q∈t.toL z p):lk (t.toL z p) q.1=some q.2:=by
 have:t.get z q.1=q.2∧p q.2=false:=by
  unfold G3.toL at h;rw[List.mem_filterMap] at h;obtain⟨k,hk,e⟩:=h;unfold G3.ent at e;cases hn:p (t.get z k)
  ·rw[hn,cond_false] at e;simp only[yya] at e;subst e;exact⟨rfl,hn⟩
  ·rw[hn,cond_true] at e;cases e
 rw[z4h hz (by rw[this.1];exact this.2),this.1]
end
abbrev T2:=N16 (N16 RV)
def T2.get(t:T2)(d:Nat):RV:=((((t.vals .e).getD (d / 16) .e).vals .nil).getD (d % 16) .nil)
def gg2(f1:N16 (N16 RV)→N16 RV)(f0:N16 RV→RV)(t:T2):RV:=f0 (f1 t)
def pp2(f1:(N16 RV→N16 RV)→T2→T2)(f0:(RV→RV)→N16 RV→N16 RV)(v:RV)(t:T2):T2:=f1 (f0 (kst v)) t
def ct(d:Nat):Bx (T2→RV):=@Bx.rec _ (fun _=>Bx (T2→RV)) (fun f1=>@Bx.rec _ (fun _=>Bx (T2→RV)) (fun f0=>.mk (gg2 f1 f0)) (nthB (g16_ .nil) (tg16 .nil) (Nat.mod d 16))) (nthB (g16_ .e) (tg16 .e) (Nat.div d 16))
def pt(d:Nat):Bx (RV→T2→T2):=@Bx.rec _ (fun _=>Bx (RV→T2→T2)) (fun f1=>@Bx.rec _ (fun _=>Bx (RV→T2→T2)) (fun f0=>.mk (pp2 f1 f0)) (nthB p16_ (tp16 .nil) (Nat.mod d 16))) (nthB p16_ (tp16 .e) (Nat.div d 16))
def ct_ok(d:Nat)(t:T2):(ct d).out t=t.get d:=by
 have h:(ct d).out t=(nthB (g16_ .nil) (tg16 .nil) (d % 16)).out ((nthB (g16_ .e) (tg16 .e) (d / 16)).out t):=by unfold ct;simp only[show Nat.mod d 16=d % 16 from rfl,show Nat.div d 16=d / 16 from rfl];generalize nthB (g16_ (.e:N16 RV)) (tg16 .e) (d / 16)=b1;generalize nthB (g16_ RV.nil) (tg16 .nil) (d % 16)=b0;cases b1;cases b0;rfl
 rw[h,j22,j22];rfl
def z0a(d e:Nat)(v:RV)(t:T2):T2.get ((pt d).out v t) e=if d=e∧d<256 then v else t.get e:=by
 have h:(pt d).out v t=(nthB p16_ (tp16 .e) (d / 16)).out ((nthB p16_ (tp16 .nil) (d % 16)).out (kst v)) t:=by unfold pt;simp only[show Nat.mod d 16=d % 16 from rfl,show Nat.div d 16=d / 16 from rfl];generalize nthB p16_ (tp16 (.e:N16 RV)) (d / 16)=b1;generalize nthB p16_ (tp16 RV.nil) (d % 16)=b0;cases b1;cases b0;rfl
 rw[h];unfold T2.get;rw[j1c,q1b,q0w];by_cases h1:d / 16=e / 16∧d / 16<16
 ·rw[if_pos h1,j1c,q1b,q0w,h1.1];by_cases h0:d % 16=e % 16∧d % 16<16
  ·rw[if_pos h0,if_pos (by omega)];rfl
  ·rw[if_neg h0,if_neg (by omega)]
 ·rw[if_neg h1,if_neg (by omega)]
inductive Sk
 |e
 |c (v:RV) (r:Sk)
def Sk.nth:Sk→Nat→RV
 |.e,_=>.nil
 |.c v _,0=>v
 |.c _ r,k+1=>r.nth k
inductive Lc
 |k (pos:Nat)
 |c (v:RV)
 |r (q:Nat)
structure Rg where
 g:Nat
 h:Nat
 ε:List (Nat×Lc)
 T:Sk
 t:T2
def isNl:RV→Bool
 |.nil=>true
 |_=>false
def bitB(g d:Nat):Bool:=Nat.beq (Nat.mod (Nat.shiftRight g d) 2) 1
def trg(g:Nat)(t:T2)(d:Nat):RV:=bif bitB g d then t.get d else .nil
def lcv(g h:Nat)(T:Sk)(t:T2):Lc→RV
 |.k pos=>bif Nat.blt pos h then T.nth (h-1-pos) else .nil
 |.c v=>v
 |.r q=>trg g t q
def Rg.get(L:Rg)(d:Nat):RV:=bif Nat.blt d 512 then(match lk L.ε d with
 |some x=>lcv L.g L.h L.T L.t x
 |none=>trg L.g L.t d) else .nil
def Rg.e:Rg:=⟨0,0,[],.e,.e⟩
def q6q{L:Rg}(h:¬ d<512):L.get d=.nil:=by
 unfold Rg.get;have:Nat.blt d 512=false:=by
  cases hb:Nat.blt d 512
  ·rfl
  ·exact absurd (by simpa using hb) h
 rw[this];rfl
def entT(t:Rg)(d:Nat):Option (Nat×RV):=bif isNl (t.get d) then none else some (d,t.get d)
def Rg.toL(t:Rg):List (Nat×RV):=(List.range 512).filterMap (entT t)
def j2d(t:Rg):∀ (ds:List Nat) (d:Nat) (v:RV),lk (ds.filterMap (entT t)) d=some v→t.get d=v∧isNl v=false
 |[],d,v,h=>by simp[lk] at h
 |x::ds,d,v,h=>by
  rw[List.filterMap_cons] at h;unfold entT at h;cases hx:isNl (t.get x)
  ·rw[hx,cond_false] at h;simp only[lk] at h;split at h
   ·rename_i e;subst e;injection h with h;subst h
    exact⟨rfl,hx⟩
   ·exact j2d t ds d v h
  ·rw[hx,cond_true] at h;exact j2d t ds d v h
def ent_lk(t:Rg)(d:Nat):∀ (ds:List Nat),d∈ds→isNl (t.get d)=false→lk (ds.filterMap (entT t)) d=some (t.get d)
 |[],h,_=>by cases h
 |x::ds,h,hn=>by
  rw[List.filterMap_cons];by_cases e:x=d
  ·subst e;simp only[entT,hn,cond_false,lk,if_true]
  ·have ih:=ent_lk t d ds (by rcases yyk.1 h with h|h;exact absurd h.symm e;exact h) hn;unfold entT;cases hx:isNl (t.get x)
   ·simp only[cond_false,lk,if_neg e];exact ih
   ·exact ih
def mem_ent(t:Rg)(p:Nat×RV)(ds:List Nat)(h:p∈ds.filterMap (entT t)):t.get p.1=p.2∧isNl p.2=false∧p.1∈ds:=by
 obtain⟨x,hx,he⟩:=List.mem_filterMap.1 h;unfold entT at he;cases hn:isNl (t.get x)
 ·rw[hn,cond_false,yya] at he;subst he;exact⟨rfl,hn,hx⟩
 ·rw[hn] at he;cases he
variable{t:Rg}
def toL_lk{v:RV}(h:lk t.toL d=some v):t.get d=v∧isNl v=false:=j2d t _ d v h
def lk_toL(h:isNl (t.get d)=false):lk t.toL d=some (t.get d):=by
 refine ent_lk t d _ ?_ h;by_cases hd:d<512
 ·exact yys.2 hd
 ·rw[q6q hd] at h;cases h
def mem_toL{p:Nat×RV}(h:p∈t.toL):lk t.toL p.1=some p.2:=by obtain⟨h1,h2,h3⟩:=mem_ent t p _ h;rw[← h1] at h2;rw[lk_toL h2,h1]
end
end Ox
namespace Ox
open Go Go.RowKit
def evS{α:Type}(P:Program):Sem α→Option α
 |.pure a=>some a
 |.program k=>evS P (k P)
 |_=>none
def w4{α:Type}{P:Program}:∀ {s:Sem α} {v:α},evS P s=some v→∀ w,s.run P w=.ok v w
 |.pure a,v,h,w=>by simp only[evS,yya] at h;subst h;simp[Sem.run]
 |.program k,v,h,w=>by simp only[evS] at h;simp only[Sem.run];exact w4 h w
 |.load ..,v,h,w=>by simp[evS] at h
 |.store ..,v,h,w=>by simp[evS] at h
 |.new ..,v,h,w=>by simp[evS] at h
 |.shape ..,v,h,w=>by simp[evS] at h
 |.freeze ..,v,h,w=>by simp[evS] at h
 |.frozen ..,v,h,w=>by simp[evS] at h
 |.getObj ..,v,h,w=>by simp[evS] at h
 |.setObj ..,v,h,w=>by simp[evS] at h
 |.choose ..,v,h,w=>by simp[evS] at h
 |.sys ..,v,h,w=>by simp[evS] at h
 |.mark ..,v,h,w=>by simp[evS] at h
 |.halt ..,v,h,w=>by simp[evS] at h
inductive RO
 |no
 |blk (ty:TypeId) (k:Option Nat) (n d:Nat) (t:Tr)
 |map (es:List (RV×RV×Nat)) (clk:Nat)
 |iter (m since:Nat) (seen:List Nat) (last:Nat) (bk:Option Nat)
 |loop (st:LoopState) (pe:Option Code) (ps:Array Tmp) (az bd:Code) (n:Nat) (L:Rg)
 |gl (g:Option Nat) (ty:TypeId) (n d:Nat) (t:Tr)
structure Hg where
 t:G3 RO
 F:List (Nat×Rg)
structure RS where
 L:List (Nat×RV)
 H:Hg
 nx:Nat
def mapR(L:List (Nat×RV)):List (Nat×AV):=L.map fun p=>(p.1,.raw p.2)
noncomputable def mapT(t:Rg):List (Nat×AV):=mapR t.toL
noncomputable def RO.toHO:RO→HO
 |.no=>.fr 0 []
 |.blk ty k n _ t=>.raw ty k n t.get
 |.map es clk=>.rmap es clk
 |.iter m since seen last bk=>.riter m since seen last bk
 |.loop st pe ps az bd n L=>.loop st pe ps az bd n (mapT L)
 |.gl g ty n _ t=>.gl g ty n t.get
def isNo:RO→Bool
 |.no=>true
 |_=>false
noncomputable def mapF:List (Nat×Rg)→List (Nat×HO)
 |[]=>[]
 |p::r=>(p.1,.fr r.length (mapT p.2))::mapF r
noncomputable def treeH(t:G3 RO):List (Nat×HO):=(G3.toL .no isNo t).map fun p=>(p.1,p.2.toHO)
noncomputable def mapH(H:Hg):List (Nat×HO):=treeH H.t++mapF H.F
noncomputable def RS.toS(s:RS):S:=⟨mapR s.L,mapH s.H,s.nx⟩
structure FS where
 L:Rg
 H:Hg
 nx:Nat
noncomputable def FS.toS(s:FS):S:=⟨mapT s.L,mapH s.H,s.nx⟩
def z5d{α β:Type}(f:α→β):∀ {L:List (Nat×α)} {d:Nat},lk (L.map fun p=>(p.1,f p.2)) d=(lk L d).map f
 |[],_=>rfl
 |(k,v)::r,d=>by
  simp only[yy4,lk];split
  ·rfl
  ·exact z5d f
def q6n{L:List (Nat×RV)}:lk (mapR L) d=(lk L d).map .raw:=z5d _
noncomputable def lq{α:Type}(l:List (Nat×α))(n:Nat):Option α:=@List.rec _ (fun _=>Option α) none (fun p _ ih=>bif Nat.beq p.1 n then some p.2 else ih) l
def lq_eq{α:Type}:∀ {L:List (Nat×α)} {n:Nat},lq L n=lk L n
 |[],_=>rfl
 |(k,v)::r,n=>by
  show(bif Nat.beq k n then some v else lq r n)=lk ((k,v)::r) n;rw[lk];cases h:Nat.beq k n
  ·have:k≠n:=fun e=>by subst e;simp at h
   rw[if_neg this,cond_false];exact lq_eq
  ·rw[if_pos (yyi h)];rfl
inductive Cha
 |mk (f:G3 RO→RO)
inductive Chp
 |mk (f:RO→G3 RO→G3 RO)
noncomputable section
def Cha.ap(c:Cha):G3 RO→RO:=Cha.rec (motive:=fun _=>G3 RO→RO) (fun f=>f) c
def Chp.ap(c:Chp):RO→G3 RO→G3 RO:=Chp.rec (motive:=fun _=>RO→G3 RO→G3 RO) (fun f=>f) c
def hca(d:Nat):Cha:=@Bx.rec _ (fun _=>Cha) (fun f=>Cha.mk f) (cg3 (.no:RO) d)
def hcp(d:Nat):Chp:=@Bx.rec _ (fun _=>Chp) (fun f=>Chp.mk f) (cp3 (.no:RO) d)
def Hg.get(H:Hg)(l:Nat):RO:=G3.get .no H.t l
def hqO(o:RO):Option RO:=@RO.rec (fun _=>Option RO) none (fun ty k n d t=>some (.blk ty k n d t)) (fun es c=>some (.map es c)) (fun m s n l b=>some (.iter m s n l b)) (fun st pe ps az bd n L=>some (.loop st pe ps az bd n L)) (fun g ty n d t=>some (.gl g ty n d t)) o
def hq(H:Hg)(l:Nat):Option RO:=hqO ((hca l).ap H.t)
def updR(H:Hg)(l:Nat)(o:RO):Hg:=⟨(hcp l).ap o H.t,H.F⟩
def hasF(l:Nat)(F:List (Nat×Rg)):Bool:=@List.rec _ (fun _=>Bool) false (fun p _ ih=>@Bool.rec (fun _=>Bool) ih true (Nat.beq p.1 l)) F
def fltF(l:Nat)(F:List (Nat×Rg)):List (Nat×Rg):=@Bool.rec (fun _=>List (Nat×Rg)) F [] (hasF l F)
def delR(H:Hg)(l:Nat):Hg:=⟨(hcp l).ap .no H.t,fltF l H.F⟩
end
def q68(d:Nat)(t:G3 RO):(hca d).ap t=G3.get .no t d:=by
 have h:(hca d).ap t=(cg3 .no d).out t:=by unfold hca;generalize cg3 (RO.no) d=b;cases b;rfl
 rw[h,cg3_ok]
def q17(d e:Nat)(v:RO)(t:G3 RO):G3.get .no ((hcp d).ap v t) e=if d=e∧d<1024 then v else G3.get .no t e:=by
 have h:(hcp d).ap v t=(cp3 .no d).out v t:=by unfold hcp;generalize cp3 (RO.no) d=b;cases b;rfl
 rw[h,cp3_get]
def hqO_some{o q:RO}(h:hqO o=some q):q=o∧isNo o=false:=by cases o<;>first|(cases h;done)|(injection h with h;exact⟨h.symm,rfl⟩)
variable{o:RO}
def hqO_of(h:isNo o=false):hqO o=some o:=by cases o<;>first|rfl|cases h
variable{H:Hg}
def q0h(h:hq H l=some o):H.get l=o∧isNo o=false:=by unfold hq at h;rw[q68] at h;obtain⟨e1,e2⟩:=hqO_some h;exact⟨e1.symm,e1▸e2⟩
def q1a(h:H.get l=o)(hn:isNo o=false):hq H l=some o:=by unfold hq;rw[q68];show hqO (H.get l)=_;rw[h];exact hqO_of hn
def hq_none(h:hq H l=none):isNo (H.get l)=true:=by
 cases hn:isNo (H.get l)
 ·rw[q1a rfl hn] at h;cases h
 ·rfl
def z85(h:hq H l=some o):l<1024:=by obtain⟨e1,e2⟩:=q0h h;refine Nat.lt_of_not_le fun hn=>?_;have:H.get l=.no:=q1z _ (by omega);rw[this] at e1;subst e1;cases e2
def lk_app{α:Type}:∀ {a b:List (Nat×α)} {l:Nat},lk (a++b) l=match lk a l with|some x=>some x|none=>lk b l
 |[],_,_=>rfl
 |(k,v)::r,b,l=>by
  show(if k=l then some v else lk (r++b) l)=match (if k=l then some v else lk r l) with|some x=>some x|none=>lk b l
  by_cases h:k=l
  ·rw[if_pos h,if_pos h]
  ·rw[if_neg h,if_neg h];exact lk_app
def lk_tree:lk (treeH H.t) l=(hq H l).map RO.toHO:=by
 unfold treeH;rw[z5d];cases hh:lk (G3.toL .no isNo H.t) l with
 |none=>
  cases hg:hq H l with
  |none=>rfl
  |some o=>obtain⟨e1,e2⟩:=q0h hg;rw[z4h rfl (by show isNo (H.get l)=false;rw[e1];exact e2)] at hh;cases hh
 |some o=>obtain⟨e1,e2⟩:=z4g hh;rw[q1a (H:=H) e1 e2]
def x7:lk (mapH H) l=match hq H l with|some o=>some o.toHO|none=>lk (mapF H.F) l:=by unfold mapH;rw[lk_app,lk_tree];cases hq H l<;>rfl
def lkH(h:hq H l=some o):lk (mapH H) l=some o.toHO:=by rw[x7,h]
def j2b:∀ {F:List (Nat×Rg)} {l:Nat} {q:HO},lk (mapF F) l=some q→∃ i L,q=.fr i (mapT L)∧i<F.length
 |[],_,_,h=>by cases h
 |p::r,l,q,h=>by
  unfold mapF lk at h;by_cases hp:p.1=l
  ·rw[if_pos hp,yya] at h;exact⟨r.length,p.2,h.symm,by simp⟩
  ·rw[if_neg hp] at h;obtain⟨i,L,e1,e2⟩:=j2b h;exact⟨i,L,e1,by simp;omega⟩
def z5k(hl:l<1024)(hn:isNo o=false):hq (updR H l o) l=some o:=by refine q1a ?_ hn;unfold Hg.get updR;rw[q17,if_pos ⟨rfl,hl⟩]
def j2v(h:l≠m):hq (updR H l o) m=hq H m:=by
 have:(updR H l o).get m=H.get m:=by unfold Hg.get updR;rw[q17,if_neg fun q=>h q.1]
 unfold hq;rw[q68,q68];exact congrArg hqO this
variable{q:HO}
def z2v(hn:isNo o=false)(h:lk (mapH (updR H l o)) m=some q):(l=m∧q=o.toHO)∨(lk (mapH H) m=some q∧(l≠m∨1024≤l)):=by
 by_cases hl:l=m
 ·subst hl;by_cases hb:l<1024
  ·rw[x7,z5k hb hn,yya] at h;exact .inl ⟨rfl,h.symm⟩
  ·have:(updR H l o).get l=H.get l:=by unfold Hg.get updR;rw[q17,if_neg (fun q=>hb q.2)]
   have e:hq (updR H l o) l=hq H l:=by unfold hq;rw[q68,q68];exact congrArg hqO this
   rw[x7,e] at h;exact .inr ⟨by rw[x7];exact h,.inr (by omega)⟩
 ·rw[x7,j2v hl] at h;exact .inr ⟨by rw[x7];exact h,.inl hl⟩
def z5o{F:List (Nat×Rg)}(h:lk (mapF (fltF l F)) m=some q):l≠m∧lk (mapF F) m=some q:=by
 have no:∀ F:List (Nat×Rg),hasF l F=false→∀ q,lk (mapF F) l=some q→False:=fun F=>by
  induction F with
  |nil=>intro _ q h;cases h
  |cons p r ih=>
   intro hf q h;have hf':(@Bool.rec (fun _=>Bool) (hasF l r) true (Nat.beq p.1 l):Bool)=false:=hf;unfold mapF lk at h;cases hb:Nat.beq p.1 l
   ·rw[hb] at hf';have:p.1≠l:=fun e=>by subst e;simp at hb
    rw[if_neg this] at h;exact ih hf' q h
   ·rw[hb] at hf';cases hf'
 unfold fltF at h;cases hf:hasF l F
 ·rw[hf] at h;have h':lk (mapF F) m=some q:=h;exact⟨fun e=>by subst e;exact no F hf q h',h'⟩
 ·rw[hf] at h;have h':lk (mapF []) m=some q:=h;cases h'
def j3s(h:lk (mapH (delR H l)) m=some q):l≠m∧lk (mapH H) m=some q:=by
 have hg:∀ k,hq (delR H l) k=if l=k then none else hq H k:=fun k=>by
  unfold hq delR;simp only;rw[q68,q68,q17];by_cases hk:l=k
  ·subst hk;rw[if_pos rfl];by_cases hb:l<1024
   ·rw[if_pos ⟨rfl,hb⟩];rfl
   ·rw[if_neg fun q=>hb q.2,q1z _ hb];rfl
  ·rw[if_neg fun q=>hk q.1,if_neg hk]
 rw[x7,hg] at h;by_cases hk:l=m
 ·rw[if_pos hk] at h;exact absurd hk (z5o h).1
 ·rw[if_neg hk] at h;refine⟨hk,?_⟩;rw[x7];cases ho:hq H m with
  |some o=>rw[ho] at h;exact h
  |none=>rw[ho] at h;exact(z5o h).2
variable{t:Rg}
def u0{v:RV}(h:t.get d=v)(hn:isNl v=false):lk (mapT t) d=some (.raw v):=by subst h;unfold mapT;rw[q6n,lk_toL hn];rfl
def u6{x:AV}(h:lk (mapT t) d=some x):x=.raw (t.get d)∧isNl (t.get d)=false:=by
 unfold mapT at h;rw[q6n] at h;cases hl:lk t.toL d with
 |none=>rw[hl] at h;cases h
 |some v=>rw[hl] at h;simp only[yxg,yya] at h;obtain⟨e1,e2⟩:=toL_lk hl;subst h;rw[e1];exact⟨rfl,e2⟩
def q7o{p:Nat×AV}(h:p∈mapT t):lk (mapT t) p.1=some p.2:=by unfold mapT mapR at h;obtain⟨q,h1,rfl⟩:=yy0.1 h;have:=mem_toL h1;unfold mapT;rw[q6n,this];rfl
attribute [irreducible] mapH hq updR delR mapT
section
variable {X:Ctx}{s:RS}{M:Mem}{ρ:Env}{a:Act}{w:World}
def j0w(h2:REG X M ρ s.toS a){v:RV}(h:lq s.L d=some v):v.bd s.nx∧a.tmps.getD d Go.undef=v.cv ρ:=by
 have h':lk (mapR s.L) d=some (.raw v):=by rw[q6n,← lq_eq,h];rfl
 have:=h2.reg d _ h';simp only[AV.bd,AV.rv] at this;exact this
def q0n(h1:SAT X M ρ s.toS w)(h:hq s.H l=some o):l<s.nx∧o.toHO.bd s.nx∧o.toHO.ok X M ρ l w:=h1.own l _ (lkH h)
noncomputable def glF(g:Nat)(H:Hg):Nat→Option Nat
 |0=>none
 |k+1=>match hq H k with
  |some (.gl (some g') _ _ _ _)=>bif Nat.beq g g' then some k else glF g H k
  |_=>glF g H k
noncomputable def opg(s:RS)(g:Nat):Option RV:=
 match glF g s.H 8 with
 |some l=>(match hq s.H l with
  |some (.gl (some g') _ _ _ _)=>bif Nat.beq g g' then some (.p l 0) else none
  |_=>none)
 |none=>none
def opg_ok(h1:SAT X M ρ s.toS w){g:Nat}{v:RV}(h:opg s g=some v):v.bd s.nx∧a.eval (.global g)=v.cv ρ:=by
 unfold opg at h;split at h
 ·split at h
  ·rename_i l _ _ g' ty n d t hl;cases hg:Nat.beq g g'
   ·rw[hg] at h;cases h
   ·rw[hg,cond_true,yya] at h;subst h;have:=yyi hg;subst this;obtain⟨e1,_,e2⟩:=q0n h1 hl;simp only[RO.toHO,HO.ok] at e2;exact⟨e1,by simp only[Act.eval,RV.cv,e2.1 _ rfl]⟩
  ·cases h
 ·cases h
def RV.ofC:Value→Option RV
 |.int k n=>some (.i k n)
 |.bool x=>some (.b x)
 |.pointer none=>some .np
 |.slice none 0 0=>some .ns
 |.nilFunc=>some .fz
 |.map none=>some .nm
 |_=>none
def RV.ofL:List Value→Option RV
 |[]=>some .nil
 |v::r=>match RV.ofC v with
  |some a=>(match RV.ofL r with
   |some q=>some (.cons a q)
   |none=>none)
  |none=>none
def RV.ofV:Value→Option RV
 |.agg cs=>match RV.ofL cs.toList with
  |some r=>some (.g r)
  |none=>none
 |.tuple cs=>match RV.ofL cs.toList with
  |some r=>some (.t r)
  |none=>none
 |v=>RV.ofC v
variable{r:RV}
def z4a(h:RV.ofC v=some r)(ρ:Env)(n:Nat):r.cv ρ=v∧r.bd n:=by unfold RV.ofC at h;split at h<;>simp only[yya,reduceCtorEq] at h<;>subst h<;>exact⟨rfl,trivial⟩
def q9j:∀ {l:List Value} {r:RV},RV.ofL l=some r→∀ (ρ:Env) (n:Nat),r.cl ρ=l∧r.bd n
 |[],r,h,ρ,n=>by simp only[RV.ofL,yya] at h;subst h;exact⟨rfl,trivial⟩
 |v::l,r,h,ρ,n=>by
  simp only[RV.ofL] at h;split at h
  ·rename_i a ha;split at h
   ·rename_i b hb;simp only[yya] at h;subst h;have e1:=z4a ha ρ n;have e2:=q9j hb ρ n;exact⟨by rw[RV.cl,e1.1,e2.1],e1.2,e2.2⟩
   ·cases h
  ·cases h
def q03(h:RV.ofV v=some r)(ρ:Env)(n:Nat):r.cv ρ=v∧r.bd n:=by
 unfold RV.ofV at h;split at h
 ·split at h
  ·rename_i h2;simp only[yya] at h;subst h;have e:=q9j h2 ρ n;exact⟨by rw[RV.cv,e.1],e.2⟩
  ·cases h
 ·split at h
  ·rename_i h2;simp only[yya] at h;subst h;have e:=q9j h2 ρ n;exact⟨by rw[RV.cv,e.1],e.2⟩
  ·cases h
 ·exact z4a h ρ n
def RV.scC:RV→Option Value
 |.i k n=>some (.int k n)
 |.b x=>some (.bool x)
 |.np=>some (.pointer none)
 |.ns=>some (.slice none 0 0)
 |.fz=>some .nilFunc
 |.nm=>some (.map none)
 |_=>none
def RV.scL:RV→Option (List Value)
 |.nil=>some []
 |.cons a r=>match a.scC with
  |some v=>(match r.scL with
   |some l=>some (v::l)
   |none=>none)
  |none=>none
 |_=>none
def RV.sc:RV→Option Value
 |.g c=>match c.scL with
  |some l=>some (.agg l.toArray)
  |none=>none
 |r=>r.scC
def z39(h:r.scC=some v)(ρ:Env):r.cv ρ=v:=by cases r<;>simp only[RV.scC,yya,reduceCtorEq] at h<;>subst h<;>rfl
def z38:∀ {r:RV} {l:List Value},r.scL=some l→∀ ρ:Env,r.cl ρ=l
 |.nil,l,h,ρ=>by simp only[RV.scL,yya] at h;subst h;rfl
 |.cons a r,l,h,ρ=>by
  simp only[RV.scL] at h;split at h
  ·rename_i v hv;split at h
   ·rename_i l' hl;simp only[yya] at h;subst h;rw[RV.cl,z39 hv ρ,z38 hl ρ]
   ·cases h
  ·cases h
 |.i ..,_,h,_|.b _,_,h,_|.np,_,h,_|.ns,_,h,_|.fz,_,h,_|.nm,_,h,_|.u,_,h,_|.p ..,_,h,_|.s ..,_,h,_|.m _,_,h,_|.it _,_,h,_|.y _,_,h,_|.o ..,_,h,_|.f ..,_,h,_|.g _,_,h,_|.t _,_,h,_=>by simp[RV.scL] at h
def q1c(h:r.sc=some v)(ρ:Env):r.cv ρ=v:=by
 unfold RV.sc at h;split at h
 ·split at h
  ·rename_i hl;simp only[yya] at h;subst h;rw[RV.cv,z38 hl ρ]
  ·cases h
 ·exact z39 h ρ
noncomputable def opv(L:List (Nat×RV)):Operand→Option RV
 |.tmp t=>lq L t
 |.const v=>RV.ofV v
 |.func f=>some (.f f .nil .nil)
 |.global _=>none
def k7(h2:REG X M ρ s.toS a){v:RV}(h:opv s.L x=some v):v.bd s.nx∧a.eval x=v.cv ρ:=by
 cases x with
 |tmp t=>exact j0w h2 h
 |const c=>have:=q03 h ρ s.nx;exact⟨this.2,this.1.symm⟩
 |func f=>simp only[opv,yya] at h;subst h;exact⟨⟨trivial,trivial⟩,rfl⟩
 |global _=>simp[opv] at h
noncomputable def opvs(L:List (Nat×RV)):List Operand→Option RV
 |[]=>some .nil
 |o::r=>match opv L o with
  |some a=>(match opvs L r with
   |some b=>some (.cons a b)
   |none=>none)
  |none=>none
def q43(h2:REG X M ρ s.toS a):∀ {l:List Operand} {v:RV},opvs s.L l=some v→v.bd s.nx∧l.map a.eval=v.cl ρ
 |[],v,h=>by simp only[opvs,yya] at h;subst h;exact⟨trivial,rfl⟩
 |o::l,v,h=>by
  simp only[opvs] at h;split at h
  ·rename_i x hx;split at h
   ·rename_i y hy;simp only[yya] at h;subst h;have e1:=k7 h2 hx;have e2:=q43 h2 hy;exact⟨⟨e1.1,e2.1⟩,by rw[yy4,e1.2,e2.2,RV.cl]⟩
   ·cases h
  ·cases h
end
end Ox
namespace Ox
noncomputable section
open Go Go.RowKit
variable {X:Ctx}{s:RS}{M:Mem}{ρ:Env}{a:Act}{w w1:World}{P:Program}
def RV.drp:RV→Nat→RV
 |r,0=>r
 |.cons _ r,k+1=>r.drp k
 |_,_+1=>.nil
def RV.tk:RV→Nat→RV
 |.cons a r,k+1=>.cons a (r.tk k)
 |_,_=>.nil
def q9k(ρ:Env):∀ (k:Nat) (r:RV),(r.drp k).cl ρ=(r.cl ρ).drop k
 |0,r=>by cases r<;>rfl
 |k+1,.cons a r=>by simp only[RV.drp,RV.cl,List.drop_succ_cons];exact q9k ρ k r
 |k+1,.i ..|k+1,.b _|k+1,.np|k+1,.ns|k+1,.fz|k+1,.nm|k+1,.u|k+1,.nil|k+1,.p ..|k+1,.s ..|k+1,.m _|k+1,.it _|k+1,.y _|k+1,.o ..|k+1,.f ..|k+1,.g _|k+1,.t _=>rfl
def q53(ρ:Env):∀ (k:Nat) (r:RV),(r.tk k).cl ρ=(r.cl ρ).take k
 |0,r=>by cases r<;>simp[RV.tk,RV.cl]
 |k+1,.cons a r=>by simp only[RV.tk,RV.cl,List.take_succ_cons];rw[q53 ρ k r]
 |k+1,.i ..|k+1,.b _|k+1,.np|k+1,.ns|k+1,.fz|k+1,.nm|k+1,.u|k+1,.nil|k+1,.p ..|k+1,.s ..|k+1,.m _|k+1,.it _|k+1,.y _|k+1,.o ..|k+1,.f ..|k+1,.g _|k+1,.t _=>rfl
def q9l{n:Nat}:∀ {k:Nat} {r:RV},r.bd n→(r.drp k).bd n
 |0,r,h=>by cases r<;>exact h
 |k+1,.cons a r,h=>by simp only[RV.drp];exact q9l h.2
 |k+1,.i ..,_|k+1,.b _,_|k+1,.np,_|k+1,.ns,_|k+1,.fz,_|k+1,.nm,_|k+1,.u,_|k+1,.nil,_|k+1,.p ..,_|k+1,.s ..,_|k+1,.m _,_|k+1,.it _,_|k+1,.y _,_|k+1,.o ..,_|k+1,.f ..,_|k+1,.g _,_|k+1,.t _,_=>trivial
def q7y{n:Nat}:∀ {k:Nat} {r:RV},r.bd n→(r.tk k).bd n
 |0,r,h=>by cases r<;>exact trivial
 |k+1,.cons a r,h=>⟨h.1,q7y h.2⟩
 |k+1,.i ..,_|k+1,.b _,_|k+1,.np,_|k+1,.ns,_|k+1,.fz,_|k+1,.nm,_|k+1,.u,_|k+1,.nil,_|k+1,.p ..,_|k+1,.s ..,_|k+1,.m _,_|k+1,.it _,_|k+1,.y _,_|k+1,.o ..,_|k+1,.f ..,_|k+1,.g _,_|k+1,.t _,_=>trivial
def partR(P:Program)(t:TypeId)(cs:RV)(off:Nat):Option RV:=
 match evS P (isAgg t) with
 |some true=>(match evS P (Go.sizeOf t) with
  |some n=>bif Nat.ble (off+n) cs.len then some (.g ((cs.drp off).tk n)) else none
  |none=>none)
 |some false=>bif Nat.blt off cs.len then some (cs.nth off) else none
 |none=>none
variable{v x:RV}
def z6m{cs:RV}(h:partR P t cs off=some v)(hb:cs.bd n):v.bd n∧∀ w,(part t (cs.cl ρ).toArray off).run P w=.ok (v.cv ρ) w:=by
 unfold partR at h;split at h
 ·rename_i hA;split at h
  ·rename_i k hk;cases hle:Nat.ble (off+k) cs.len
   ·rw[hle] at h;cases h
   ·rw[hle,cond_true,yya] at h;subst h;refine⟨q7y (q9l hb),fun w=>?_⟩;unfold part;simp only[yye,w4 hA,yyb,if_true,w4 hk,yyf,RV.cv,q53,q9k];congr 2;apply Array.ext';simp[List.extract_eq_drop_take]
  ·cases h
 ·rename_i hA;cases hlt:Nat.blt off cs.len
  ·rw[hlt] at h;cases h
  ·rw[hlt,cond_true,yya] at h;subst h;have hlt':off<cs.len:=by simpa using hlt
   refine⟨f6 hb,fun w=>?_⟩;unfold part;simp only[yye,w4 hA,yyb,yyt,if_false,yxr,q0l ρ hlt',yyf]
 ·cases h
def ldT(P:Program)(t:TypeId)(n:Nat)(tr:Tr)(off:Nat):Option RV:=
 match evS P (isAgg t) with
 |some true=>(match evS P (Go.sizeOf t) with
  |some k=>bif Nat.ble (off+k) n then some (.g (tr.cut k off)) else none
  |none=>none)
 |some false=>bif Nat.blt off n then some (tr.get off) else none
 |none=>none
noncomputable def ldR(P:Program)(H:Hg)(t:TypeId):RV→Option RV
 |.p l off=>match hq H l with
  |some (.blk _ _ n _ tr)=>ldT P t n tr off
  |some (.gl _ _ n _ tr)=>ldT P t n tr off
  |_=>none
 |_=>none
variable{tr:Tr}
def j3v{c:Nat→RV}(hc:∀ i,i<n→cs[i]?=some ((c i).cv ρ)∧((c i).cv ρ).oneCell'=true)(he:c=tr.get){k off:Nat}(h:off+k≤n) :
  (tr.cut k off).cl ρ=(cs.toList.drop off).take k:=by
 subst he;apply List.ext_getElem?;intro j;by_cases hj:j<k
 ·rw[q0l ρ (by rw[q0b];exact hj),z0n tr hj,yxo,if_pos hj,List.getElem?_drop,yxs,(hc (off+j) (by omega)).1]
 ·rw[yxe (by rw[j8,q0b];omega),yxe (by simp;omega)]
def ldT_ok{n off b m:Nat}{fz:Nat×Nat}(h:ldT P t n tr off=some v)(hsz:n≤cs.size)(hc:∀ i,i<n→cs[i]?=some ((tr.get i).cv ρ)∧((tr.get i).cv ρ).oneCell'=true)
  (hbd:∀ i,i<n→(tr.get i).bd m):v.bd m∧∀ w1:World,w1.heap[b]?=some (.cells cs ty fz)→(Instr.loadAt t (.pointer (some ⟨b,off,none⟩))).run P w1=.ok (v.cv ρ) w1:=by
 unfold ldT at h;split at h
 ·rename_i hA;split at h
  ·rename_i k hk;cases hle:Nat.ble (off+k) n
   ·rw[hle] at h;cases h
   ·rw[hle,cond_true,yya] at h;subst h;have hle':off+k≤n:=yyc hle;refine⟨q52 fun j _ hj=>hbd j (by omega),fun w1 hw=>?_⟩;simp only[Instr.loadAt,Instr.sureAddr,RV.cv,yye,yyf,yyb];unfold loadVar;simp only[yye,w4 hA,yyb,if_true,w4 hk,q0z hw (show off+k≤cs.size by omega),yyf,j3v hc rfl hle']
  ·cases h
 ·rename_i hA;cases hlt':Nat.blt off n
  ·rw[hlt'] at h;cases h
  ·rw[hlt',cond_true,yya] at h;subst h;have hlt':off<n:=by simpa using hlt'
   refine⟨hbd off hlt',fun w1 hw=>?_⟩;simp only[Instr.loadAt,Instr.sureAddr,RV.cv,yye,yyf,yyb];unfold loadVar;simp only[yye,w4 hA,yyb,yyt,if_false];simp[u4 hw,(hc off hlt').1]
 ·cases h
def ldR_ok(h1:SAT X M ρ s.toS w)(h:ldR P s.H t x=some v):v.bd s.nx∧∀ w1,Below w.heap.size w w1→(Instr.loadAt t (x.cv ρ)).run P w1=.ok (v.cv ρ) w1:=by
 unfold ldR at h;split at h
 ·rename_i l off;split at h
  ·rename_i ty kk n d tr hl;obtain⟨hlt,hbd,hok⟩:=q0n h1 hl;simp only[RO.toHO,HO.ok,HO.bd] at hok hbd;obtain⟨hbase,cs,hheap,hsz,hc,_⟩:=hok;obtain⟨e1,e2⟩:=ldT_ok (b:=ρ.blk l) (ty:=ty) (fz:=(0,0)) h hsz hc hbd;exact⟨e1,fun w1 hw=>e2 w1 (by rw[hw.block _ (yym.1 hheap).1];exact hheap)⟩
  ·rename_i g ty n d tr hl;obtain⟨hlt,hbd,hok⟩:=q0n h1 hl;simp only[RO.toHO,HO.ok,HO.bd] at hok hbd;obtain⟨_,cs,ty,fz,hM,hsz,hc⟩:=hok;have hheap:=h1.mem _ _ hM;obtain⟨e1,e2⟩:=ldT_ok (b:=ρ.blk l) (ty:=ty) (fz:=fz) h hsz hc hbd;exact⟨e1,fun w1 hw=>e2 w1 (by rw[hw.block _ (yym.1 hheap).1];exact hheap)⟩
  ·cases h
 ·cases h
def faR(P:Program)(t:TypeId)(x:RV)(i:Nat):Option RV:=
 match x with
 |.p l off=>match evS P (underlying t) with
  |some (.struct fs)=>(match fs[i]? with
   |some f=>(match evS P (Go.sizeOf f.type) with
    |some (_+1)=>some (.p l (off+f.offset))
    |_=>none)
   |none=>none)
  |_=>none
 |_=>none
def faR_ok(h:faR P t x i=some v)(hb:x.bd n):v.bd n∧∀ w,(Instr.fieldAt t (x.cv ρ) i).run P w=.ok (v.cv ρ) w:=by
 unfold faR at h;split at h
 ·split at h
  ·rename_i hU;split at h
   ·rename_i hf;split at h
    ·rename_i hs;simp only[yya] at h;subst h;refine⟨hb,fun w=>?_⟩;unfold Instr.fieldAt;simp only[yye,w4 hU,yyb,hf,RV.cv,Instr.sureAddr,yyf,fieldPlace,w4 hs,z7];rw[if_neg (Nat.succ_ne_zero _)];rfl
    ·cases h
   ·cases h
  ·cases h
 ·cases h
def slB:RV→Option (Nat×Nat×Nat)
 |.s l off n _=>some (l,off,n)
 |.o l e lo hi _ _=>bif Nat.blt lo hi then some (l,lo*e,hi-lo) else none
 |_=>none
noncomputable def okO(H:Hg):RV→Bool
 |.o l e _ hi _ _=>match hq H l with
  |some (.blk _ (some e') n _ _)=>Nat.beq e e'&&Nat.ble (hi*e) n&&Nat.blt 0 e
  |_=>false
 |_=>true
def z6e(h1:SAT X M ρ s.toS w)(h:slB x=some (l,off,n))(ho:okO s.H x=true):(∀ m,x.bd m→l<m)∧∃ c,x.cv ρ=.slice (some ⟨ρ.blk l,off,none⟩) n c:=by
 unfold slB at h;split at h
 ·simp only[yya,yyp] at h;obtain⟨rfl,rfl,rfl⟩:=h;exact⟨fun _ h=>h,_,rfl⟩
 ·rename_i l' e lo hi full z;cases hlt:Nat.blt lo hi
  ·rw[hlt] at h;cases h
  ·rw[hlt,cond_true,yya,yyp,yyp] at h;obtain⟨rfl,rfl,rfl⟩:=h;have hlt':lo<hi:=by simpa using hlt
   refine⟨fun _ h=>h,(if full then hi else(ρ.sv l').capN)-lo,?_⟩;rw[RV.cv,if_neg];simp only[okO] at ho;split at ho
   ·rename_i hl;simp only[yyd,Nat.beq_eq,Nat.blt_eq] at ho;obtain⟨⟨rfl,h3⟩,h4⟩:=ho;have h3:=yyc h3;obtain⟨_,_,hok⟩:=q0n h1 hl;simp only[RO.toHO,HO.ok] at hok;obtain⟨_,cs,_,_,_,m,cap,hsv,hn,_,hmc,_⟩:=hok;have:hi≤cap:=by
     have:hi*e≤m*e:=by rw[← hn];exact h3
     exact Nat.le_trans (Nat.le_of_mul_le_mul_right this h4) hmc
    split
    ·omega
    ·rw[hsv];simp only[Value.capN];omega
   ·cases ho
 ·cases h
noncomputable def iaR(P:Program)(H:Hg)(t:TypeId)(x i:RV):Option RV:=
 match i with
 |.i _ k=>match evS P (underlying t) with
  |some (.array len elem)=>(match x with
   |.p l off=>(match evS P (Go.sizeOf elem) with
    |some z=>bif decide (0≤k)&&decide (k<len) then some (.p l (off+k.toNat*z)) else none
    |none=>none)
   |_=>none)
  |some (.slice elem)=>(match slB x with
   |some (l,off,n)=>(match evS P (Go.sizeOf elem) with
    |some z=>bif (decide (0≤k)&&decide (k<n))&&okO H x then some (.p l (off+k.toNat*z)) else none
    |none=>none)
   |none=>none)
  |_=>none
 |_=>none
def iaR_ok(h1:SAT X M ρ s.toS w){x i v:RV}(h:iaR P s.H t x i=some v)(hb:x.bd n):v.bd n∧∀ w,(Instr.indexAt t (x.cv ρ) (i.cv ρ)).run P w=.ok (v.cv ρ) w:=by
 unfold iaR at h;split at h
 ·rename_i kk k;split at h
  ·rename_i len elem hU;split at h
   ·rename_i l off;split at h
    ·rename_i z hz;cases hc:decide (0≤k)&&decide (k<(len:Int))
     ·rw[hc] at h;cases h
     ·rw[hc,cond_true,yya] at h;subst h;simp only[yyd,yyu] at hc;refine⟨hb,fun w=>?_⟩;unfold Instr.indexAt;simp only[RV.cv,asIntOf,yye,yyf,yyb,w4 hU,Instr.sureAddr];rw[if_pos hc];simp[w4 hz,z7]
    ·cases h
   ·cases h
  ·rename_i elem hU;split at h
   ·rename_i l off m hsl;split at h
    ·rename_i z hz;cases hc:(decide (0≤k)&&decide (k<(m:Int)))&&okO s.H x
     ·rw[hc] at h;cases h
     ·rw[hc,cond_true,yya] at h;subst h;simp only[yyd,yyu] at hc;obtain⟨e1,c,e2⟩:=z6e h1 hsl hc.2;refine⟨e1 _ hb,fun w=>?_⟩;unfold Instr.indexAt;rw[e2];simp only[RV.cv,asIntOf,yye,yyf,yyb,w4 hU];rw[if_pos hc.1];simp[w4 hz,z7]
    ·cases h
   ·cases h
  ·cases h
 ·cases h
end
end Ox
namespace Ox
noncomputable section
open Go Go.RowKit
variable {X:Ctx}{s:RS}{M:Mem}{ρ:Env}{a:Act}{w w1:World}{P:Program}
def bN(d:Nat):Option RV→Option Nat
 |none=>some d
 |some (.i _ k)=>bif decide (0≤k) then some k.toNat else none
 |_=>none
def bN_ok{x:Option RV}(h:bN d x=some n):(x=none∧n=d)∨∃ k v,x=some (.i k v)∧0≤v∧n=v.toNat:=by
 unfold bN at h;split at h
 ·simp only[yya] at h;exact .inl ⟨rfl,h.symm⟩
 ·rename_i k v;cases hd:decide (0≤v)
  ·rw[hd] at h;cases h
  ·rw[hd,cond_true,yya] at h;exact .inr ⟨k,v,rfl,by simpa using hd,h.symm⟩
 ·cases h
def mxOk:Option RV→Option RV→Bool
 |none,some _=>false
 |_,_=>true
variable{lo hi mx:Option RV}
def o7{fl:Bool}{n cap:Nat}{x b m:Nat}(hm:bN cap mx=some m)(hh:bN n hi=some b)(hl:bN 0 lo=some x)(hx:mxOk hi mx=true)
  (h1:x≤b) (h2:b≤m) (h3:m≤cap) :
  (Instr.sliceBounds fl n cap (lo.map (RV.cv ρ)) (hi.map (RV.cv ρ)) (mx.map (RV.cv ρ))).run P w=.ok (x,b,m) w:=by
 unfold Instr.sliceBounds;rcases bN_ok hm with⟨rfl,rfl⟩|⟨k1,v1,rfl,g1,rfl⟩<;>rcases bN_ok hh with⟨rfl,rfl⟩|⟨k2,v2,rfl,g2,rfl⟩<;>(try cases hx)<;>
  rcases bN_ok hl with⟨rfl,rfl⟩|⟨k3,v3,rfl,g3,rfl⟩<;>simp only[Option.map_none,yxg,RV.cv,yye,yyf,yyb]
 ·rw[y5 g3 (by omega)];rfl
 ·rw[y5 g2 (by omega)];rfl
 ·rw[y5 g2 (by omega)];simp only[yyb];rw[y5 g3 (by omega)];rfl
 ·rw[y5 g1 (by omega)];simp only[yyb];rw[y5 g2 (by omega)];rfl
 ·rw[y5 g1 (by omega)];simp only[yyb];rw[y5 g2 (by omega)];simp only[yyb];rw[y5 g3 (by omega)];rfl
noncomputable def slR(P:Program)(H:Hg)(t:TypeId)(x:RV)(lo hi mx:Option RV):Option RV:=
 match evS P (underlying t) with
 |some (.slice elem)=>(match evS P (Go.sizeOf elem) with
  |some z=>(match x with
   |.ns=>(match bN 0 lo,bN 0 hi,bN 0 mx with
    |some 0,some 0,some 0=>bif mxOk hi mx then some .ns else none
    |_,_,_=>none)
   |.s l off n c=>(match bN 0 lo,bN n hi,bN c mx with
    |some p,some q,some m=>bif mxOk hi mx&&Nat.ble p q&&Nat.ble q m&&Nat.ble m c then some (.s l (bif Nat.beq m p then off else off+p*z) (q-p) (m-p)) else none
    |_,_,_=>none)
   |.o l e u v full zz=>(match bN 0 lo,bN (v-u) hi with
    |some p,some q=>bif mxOk hi mx&&Nat.ble p q&&(Nat.ble q (v-u)||(!full&&okO H (.o l e u (u+q) full zz)))&&okO H (.o l e u v full zz)&&Nat.beq z e&&Nat.ble u v then
      (match mx with
       |none=>bif !full||Nat.beq q (v-u) then some (.o l e (u+p) (u+q) full (bif Nat.beq p 0 then zz else u*e)) else none
       |some _=>match bN 0 mx with
        |some m=>bif Nat.beq m q then(bif Nat.blt 0 q||Nat.beq zz (u*e) then some (.o l e (u+p) (u+q) true (bif Nat.beq p 0 then zz else u*e)) else none)
          else bif Nat.ble q m&&Nat.ble m (v-u) then some (.s l ((u+p)*e) (q-p) (m-p)) else none
        |none=>none)
     else none
    |_,_=>none)
   |_=>none)
  |none=>none)
 |some (.array n elem)=>(match evS P (Go.sizeOf elem) with
  |some z=>(match x with
   |.p l off=>(match bN 0 lo,bN n hi,bN n mx with
    |some p,some q,some m=>bif mxOk hi mx&&Nat.ble p q&&Nat.ble q m&&Nat.ble m n then some (.s l (bif Nat.beq m p then off else off+p*z) (q-p) (m-p)) else none
    |_,_,_=>none)
   |_=>none)
  |none=>none)
 |_=>none
def z1b(h1:SAT X M ρ s.toS w){l e u v z:Nat}{full:Bool}(ho:okO s.H (.o l e u v full z)=true):v≤(if full then v else(ρ.sv l).capN):=by
 simp only[okO] at ho;split at ho
 ·rename_i hl;simp only[yyd,Nat.beq_eq,Nat.blt_eq] at ho;obtain⟨⟨rfl,h3⟩,h4⟩:=ho;have h3:=yyc h3;obtain⟨_,_,hok⟩:=q0n h1 hl;simp only[RO.toHO,HO.ok] at hok;obtain⟨_,cs,_,_,_,m,cap,hsv,hn,_,hmc,_⟩:=hok;have:v≤cap:=by
   have:v*e≤m*e:=by rw[← hn];exact h3
   exact Nat.le_trans (Nat.le_of_mul_le_mul_right this h4) hmc
  split
  ·omega
  ·rw[hsv];simp only[Value.capN];omega
 ·cases ho
def beq_ne(h:p≠q):Nat.beq p q=false:=by
 cases hp:Nat.beq p q
 ·rfl
 ·exact absurd (yyi hp) h
def j0g{b u z zz zp p q C:Nat}(hpq:p≤q)(hC:u+q≤C)(h0:p=0→zp=zz)(h1:p≠0→zp=u*z) :
  Value.slice (if C-u=p then some ⟨b,if C=u then zz else u*z,none⟩ else(some (⟨b,if C=u then zz else u*z,none⟩:Addr)).map (·.add (p*z))) (q-p) (C-u-p) =
   .slice (some ⟨b,if C=u+p then zp else(u+p)*z,none⟩) (u+q-(u+p)) (C-(u+p)):=by
 have e1:q-p=u+q-(u+p):=by omega
 have e2:C-u-p=C-(u+p):=by omega
 rw[e1,e2];by_cases hp:p=0
 ·subst hp;rw[h0 rfl];by_cases hm:C-u=0
  ·rw[if_pos hm,Nat.add_zero]
  ·rw[if_neg hm,Nat.add_zero];simp[z7]
 ·have hn:¬ C=u:=by omega
  rw[if_neg hn,h1 hp];by_cases hm:C-u=p
  ·rw[if_pos hm,if_pos (show C=u+p by omega)]
  ·rw[if_neg hm,if_neg (show ¬ C=u+p by omega)];simp[z7,yxa]
def slR_ok(h1:SAT X M ρ s.toS w){x r:RV}(h:slR P s.H t x lo hi mx=some r){k:Nat}(hb:x.bd k) :
  r.bd k∧∀ w,(Instr.sliceAt t (x.cv ρ) (lo.map (RV.cv ρ)) (hi.map (RV.cv ρ)) (mx.map (RV.cv ρ))).run P w=.ok (r.cv ρ) w:=by
 unfold slR at h;split at h
 ·rename_i elem hU;split at h
  ·rename_i z hz;have go:∀ {ad:Option Addr} {n cap p q m:Nat} {w:World},(Instr.sliceBounds true n cap (lo.map (RV.cv ρ)) (hi.map (RV.cv ρ)) (mx.map (RV.cv ρ))).run P w=.ok (p,q,m) w →
     (Instr.sliceAt t (.slice ad n cap) (lo.map (RV.cv ρ)) (hi.map (RV.cv ρ)) (mx.map (RV.cv ρ))).run P w=.ok (.slice (if m=p then ad else ad.map (·.add (p*z))) (q-p) (m-p)) w:=fun hr=>by
    unfold Instr.sliceAt Instr.slice;simp only[yye,w4 hU,yyb,hr,w4 hz,yyf]
   split at h
   ·split at h
    ·rename_i e1 e2 e3;cases hx:mxOk hi mx
     ·rw[hx] at h;cases h
     ·rw[hx,cond_true,yya] at h;subst h;exact⟨trivial,fun w=>go (o7 e3 e2 e1 hx (yyn _) (yyn _) (yyn _))⟩
    ·cases h
   ·rename_i l off n c;split at h
    ·rename_i p q m e1 e2 e3;cases hx:mxOk hi mx&&Nat.ble p q&&Nat.ble q m&&Nat.ble m c
     ·rw[hx] at h;cases h
     ·rw[hx,cond_true,yya] at h;subst h;simp only[yyd] at hx;refine⟨hb,fun w=>(go (o7 e3 e2 e1 hx.1.1.1 (yyc hx.1.1.2) (yyc hx.1.2) (yyc hx.2))).trans ?_⟩;simp only[RV.cv];cases hm:Nat.beq m p
      ·have:m≠p:=fun e=>by subst e;simp at hm
       rw[if_neg this,cond_false];simp[z7]
      ·rw[if_pos (yyi hm),cond_true]
    ·cases h
   ·rename_i l e u v full zz;split at h
    ·rename_i p q e1 e2;cases hx:mxOk hi mx&&Nat.ble p q&&(Nat.ble q (v-u)||(!full&&okO s.H (.o l e u (u+q) full zz)))&&okO s.H (.o l e u v full zz)&&Nat.beq z e&&Nat.ble u v
     ·rw[hx] at h;cases h
     ·rw[hx,cond_true] at h;simp only[yyd] at hx;obtain⟨⟨⟨⟨⟨hx1,hx2⟩,hx3⟩,hx4⟩,hx5⟩,hx6⟩:=hx;have hx6:=yyc hx6;have hx2:=yyc hx2;have hx5:=yyi hx5;subst hx5;have hC:=z1b h1 hx4;have hqC:u+q≤(if full then v else(ρ.sv l).capN):=by
       simp only[yy1,yyd] at hx3;rcases hx3 with hx3|⟨hf,hx3⟩
       ·have:=yyc hx3;omega
       ·have hf:full=false:=by simpa using hf
        subst hf;exact z1b h1 hx3
      generalize hCC:(if full then v else(ρ.sv l).capN)=C at hC hqC;have hcv:(RV.o l z u v full zz).cv ρ=.slice (some ⟨ρ.blk l,if C=u then zz else u*z,none⟩) (v-u) (C-u):=by simp only[RV.cv,hCC]
      rw[hcv];split at h
      ·cases hf:!full||Nat.beq q (v-u)
       ·rw[hf] at h;cases h
       ·rw[hf,cond_true,yya] at h;subst h;refine⟨hb,fun w=>(go (o7 (m:=C-u) rfl e2 e1 hx1 hx2 (by omega) (yyn _))).trans ?_⟩;have hq:full=true→q=v-u:=fun e=>by rw[e] at hf;simpa using hf
        have hCq:(if full then u+q else(ρ.sv l).capN)=C:=by
         cases full
         ·simpa using hCC
         ·simp only[if_true] at hCC ⊢;have:=hq rfl;omega
        simp only[RV.cv,hCq];refine congrArg (Result.ok · w) ?_;exact j0g hx2 (by omega) (fun h0=>by rw[h0];rfl) (fun h0=>by rw[beq_ne h0];rfl)
      ·split at h
       ·rename_i mv _ m e3;have e3':bN (C-u) (some mv)=some m:=by rw[← e3];cases mv<;>rfl
        cases hm1:Nat.beq m q
        ·rw[hm1,cond_false] at h;cases hm:Nat.ble q m&&Nat.ble m (v-u)
         ·rw[hm] at h;cases h
         ·rw[hm,cond_true,yya] at h;subst h;simp only[yyd] at hm;have hq1:=yyc hm.1;have hq2:=yyc hm.2;have hne:m≠q:=fun e=>by subst e;simp at hm1
          refine⟨hb,fun w=>(go (o7 (m:=m) e3' e2 e1 hx1 hx2 hq1 (by omega))).trans ?_⟩;simp only[RV.cv];rw[if_neg (show ¬ m=p by omega),if_neg (show ¬ C=u by omega)];simp[z7,yxa]
        ·rw[hm1,cond_true] at h;cases hm2:Nat.blt 0 q||Nat.beq zz (u*z)
         ·rw[hm2] at h;cases h
         rw[hm2,cond_true,yya] at h;subst h;simp only[yy1,Nat.blt_eq] at hm2;have hm1:=yyi hm1;subst hm1;refine⟨hb,fun w=>(go (o7 (m:=m) e3' e2 e1 hx1 hx2 (yyn _) (by omega))).trans ?_⟩;simp only[RV.cv,if_true];refine congrArg (Result.ok · w) ?_;have hz:(if C=u then zz else u*z)=if u+m=u then zz else u*z:=by
          rcases hm2 with h0|h0
          ·rw[if_neg (by omega),if_neg (by omega)]
          ·rw[yyi h0];simp
         rw[hz];have:=j0g (b:=ρ.blk l) (u:=u) (z:=z) (zz:=zz) (zp:=bif Nat.beq p 0 then zz else u*z) (C:=u+m) hx2 (by omega) (fun h0=>by rw[h0];rfl) (fun h0=>by rw[beq_ne h0];rfl);rw[Nat.add_sub_cancel_left] at this;exact this
       ·cases h
    ·cases h
   ·cases h
  ·cases h
 ·rename_i n elem hU;split at h
  ·rename_i z hz;split at h
   ·rename_i l off;split at h
    ·rename_i p q m e1 e2 e3;cases hx:mxOk hi mx&&Nat.ble p q&&Nat.ble q m&&Nat.ble m n
     ·rw[hx] at h;cases h
     ·rw[hx,cond_true,yya] at h;subst h;simp only[yyd] at hx;refine⟨hb,fun w=>?_⟩;unfold Instr.sliceAt;simp only[yye,w4 hU,yyb,RV.cv,Instr.sureAddr,yyf,o7 e3 e2 e1 hx.1.1.1 (yyc hx.1.1.2) (yyc hx.1.2) (yyc hx.2),w4 hz];cases hm:Nat.beq m p
      ·have:m≠p:=fun e=>by subst e;simp at hm
       rw[if_neg this,cond_false];simp[z7]
      ·rw[if_pos (yyi hm),cond_true]
    ·cases h
   ·cases h
  ·cases h
 ·cases h
end
end Ox
namespace Ox
noncomputable section
open Go Go.RowKit
variable {X:Ctx}{s:RS}{M:Mem}{ρ:Env}{a:Act}{w w1:World}{P:Program}
def fdR(P:Program)(t:TypeId)(x:RV)(i:Nat):Option RV:=
 match x with
 |.g cs=>(match evS P (underlying t) with
  |some (.struct fs)=>(match fs[i]? with
   |some f=>partR P f.type cs f.offset
   |none=>none)
  |_=>none)
 |_=>none
def fdR_ok{x v:RV}(h:fdR P t x i=some v)(hb:x.bd n):v.bd n∧∀ w,(Instr.field t (x.cv ρ) i).run P w=.ok (v.cv ρ) w:=by
 unfold fdR at h;split at h
 ·split at h
  ·rename_i hU;split at h
   ·rename_i hf;obtain⟨e1,e2⟩:=z6m (ρ:=ρ) h hb;refine⟨e1,fun w=>?_⟩;unfold Instr.field;simp only[yye,w4 hU,yyb,hf,RV.cv,asAgg,yyf,e2]
   ·cases h
  ·cases h
 ·cases h
def ixR(P:Program)(t:TypeId)(x i:RV):Option RV:=
 match i with
 |.i _ k=>(match x with
  |.g cs=>(match evS P (underlying t) with
   |some (.array len elem)=>(match evS P (Go.sizeOf elem) with
    |some z=>bif decide (0≤k)&&decide (k<len) then partR P elem cs (k.toNat*z) else none
    |none=>none)
   |_=>none)
  |_=>none)
 |_=>none
def ixR_ok{x i v:RV}(h:ixR P t x i=some v)(hb:x.bd n):v.bd n∧∀ w,(Instr.index t (x.cv ρ) (i.cv ρ)).run P w=.ok (v.cv ρ) w:=by
 unfold ixR at h;split at h
 ·rename_i kk k;split at h
  ·rename_i cs;split at h
   ·rename_i len elem hU;split at h
    ·rename_i z hz;cases hc:decide (0≤k)&&decide (k<(len:Int))
     ·rw[hc] at h;cases h
     ·rw[hc,cond_true] at h;simp only[yyd,yyu] at hc;obtain⟨e1,e2⟩:=z6m (ρ:=ρ) h hb;refine⟨e1,fun w=>?_⟩;unfold Instr.index;simp only[RV.cv,asIntOf,yye,yyf,yyb,w4 hU];rw[if_pos hc];simp only[yye,w4 hz,yyb,e2]
    ·cases h
   ·cases h
  ·cases h
 ·cases h
noncomputable def lnR(P:Program)(H:Hg)(t:TypeId)(x:RV):Option RV:=
 match evS P (underlying t) with
 |some (.slice _)=>(match x with
  |.ns=>some (.i .i64 0)
  |.s _ _ n _=>some (.i .i64 n)
  |.o _ _ lo hi _ _=>some (.i .i64 (hi-lo:Nat))
  |_=>none)
 |some (.array n _)=>some (.i .i64 n)
 |some (.map _ _)=>(match x with
  |.m l=>(match hq H l with
   |some (.map es _)=>some (.i .i64 es.length)
   |_=>none)
  |_=>none)
 |_=>none
def lnR_ok(h1:SAT X M ρ s.toS w){x v:RV}(h:lnR P s.H t x=some v):(∀ n,v.bd n)∧∀ w1,Below w.heap.size w w1→∀ ty,(Builtin.len_ #[t] ty #[x.cv ρ]).run P w1=.ok (v.cv ρ) w1:=by
 unfold lnR at h;split at h
 ·rename_i e hU;split at h<;>simp only[yya,reduceCtorEq] at h<;>subst h<;>refine⟨fun _=>trivial,fun w1 _ ty=>?_⟩<;>simp[Builtin.len_,w4 hU,goInt,RV.cv]
 ·rename_i n e hU;simp only[yya] at h;subst h;refine⟨fun _=>trivial,fun w1 _ ty=>?_⟩;simp[Builtin.len_,w4 hU,goInt,RV.cv]
 ·rename_i k e hU;split at h
  ·rename_i l;split at h
   ·rename_i es clk hl;simp only[yya] at h;subst h;obtain⟨_,_,hok⟩:=q0n h1 hl;simp only[RO.toHO,HO.ok] at hok;obtain⟨_,ms,hheap,hms⟩:=hok;refine⟨fun _=>trivial,fun w1 hw ty=>?_⟩;have hh:w1.heap[ρ.blk l]?=some (.map ms clk):=by rw[hw.block _ (yym.1 hheap).1];exact hheap
    have hlen:ms.size=es.length:=by rw[← Array.length_toList,hms,yxy]
    simp[Builtin.len_,w4 hU,goInt,RV.cv,getObj,Sem.run,hh,hlen]
   ·cases h
  ·cases h
 ·cases h
def cpR(P:Program)(t:TypeId)(x:RV):Option RV:=
 match evS P (underlying t) with
 |some (.slice _)=>(match x with
  |.ns=>some (.i .i64 0)
  |.s _ _ _ c=>some (.i .i64 c)
  |.o _ _ lo hi true _=>some (.i .i64 (hi-lo:Nat))
  |_=>none)
 |_=>none
def cpR_ok{x v:RV}(h:cpR P t x=some v):(∀ n,v.bd n)∧∀ w1 ty,(Builtin.cap_ #[t] ty #[x.cv ρ]).run P w1=.ok (v.cv ρ) w1:=by
 unfold cpR at h;split at h
 ·rename_i e hU;split at h<;>simp only[yya,reduceCtorEq] at h<;>subst h<;>refine⟨fun _=>trivial,fun w1 ty=>?_⟩<;>simp[Builtin.cap_,w4 hU,goInt,RV.cv]
 ·cases h
def nlR(P:Program)(t:TypeId)(x y:RV):Option Bool:=
 match evS P (underlying t) with
 |some (.pointer _)=>(match x,y with
  |.p _ _,.np=>some false
  |.np,.p _ _=>some false
  |_,_=>none)
 |some (.slice _)=>(match x,y with
  |.s _ _ _ _,.ns=>some false
  |.o _ _ _ _ _ _,.ns=>some false
  |_,_=>none)
 |some (.func _ _ _)=>(match x,y with
  |.f _ _ _,.fz=>some false
  |_,_=>none)
 |_=>none
def inR(k:IntKind)(r:Int):Bool:=IntKind.casesOn (motive:=fun _=>Bool) k false false false
 (Int.casesOn (motive:=fun _=>Bool) r (fun n=>Nat.blt n 9223372036854775808) (fun n=>Nat.blt n 9223372036854775808)) false false false
 (Int.casesOn (motive:=fun _=>Bool) r (fun n=>Nat.blt n 18446744073709551616) (fun _=>false))
def z3n(h:inR k r=true):inK k r:=by cases k<;>cases r<;>simp[inR,Nat.blt] at h<;>simp only[inK,Int.ofNat_eq_natCast]<;>omega
def iLt(a b:Int):Bool:=Int.casesOn (motive:=fun _=>Bool) a (fun m=>Int.casesOn (motive:=fun _=>Bool) b (fun n=>Nat.blt m n) (fun _=>false)) (fun m=>Int.casesOn (motive:=fun _=>Bool) b (fun _=>true) (fun n=>Nat.blt n m))
def z7b(a b:Int):iLt a b=decide (a<b):=by rw[yy5];cases a<;>cases b<;>simp[iLt,Nat.blt]<;>omega
def iNn(a:Int):Bool:=Int.casesOn (motive:=fun _=>Bool) a (fun _=>true) (fun _=>false)
def z7a{a:Int}(h:iNn a=true):0≤a:=by cases a<;>simp[iNn] at h<;>simp only[Int.ofNat_eq_natCast]<;>omega
def keep(k:IntKind)(r:Int):Option RV:=bif inR k r then some (.i k r) else none
variable{v u:RV}
def z5j(h:keep k r=some v):inK k r∧v=.i k r:=by
 unfold keep at h;cases hr:inR k r
 ·rw[hr] at h;cases h
 ·rw[hr,cond_true,yya] at h;exact⟨z3n hr,h.symm⟩
def f_add(k:IntKind)(a b:Int):Option RV:=keep k (Int.add a b)
def f_sub(k:IntKind)(a b:Int):Option RV:=keep k (Int.sub a b)
def f_mul(k:IntKind)(a b:Int):Option RV:=keep k (Int.mul a b)
def f_no(_:IntKind)(_ _:Int):Option RV:=none
def f_and(k:IntKind)(a b:Int):Option RV:=bif iNn a&&iNn b&&inR k a&&inR k b then some (.i k (Int.ofNat (Nat.land a.toNat b.toNat))) else none
def f_or(k:IntKind)(a b:Int):Option RV:=bif iNn a&&iNn b&&inR k a&&inR k b then some (.i k (Int.ofNat (Nat.lor a.toNat b.toNat))) else none
def f_eql(_:IntKind)(a b:Int):Option RV:=some (.b (iEq a b))
def f_neq(_:IntKind)(a b:Int):Option RV:=some (.b (!iEq a b))
def f_lss(_:IntKind)(a b:Int):Option RV:=some (.b (iLt a b))
def f_leq(_:IntKind)(a b:Int):Option RV:=some (.b (!iLt b a))
def f_gtr(_:IntKind)(a b:Int):Option RV:=some (.b (iLt b a))
def f_geq(_:IntKind)(a b:Int):Option RV:=some (.b (!iLt a b))
def f_op(op:BinOp):IntKind→Int→Int→Option RV:=BinOp.casesOn (motive:=fun _=>IntKind→Int→Int→Option RV) op f_add f_sub f_mul f_no f_no f_and f_or f_no f_no f_no f_no f_eql f_neq f_lss f_leq f_gtr f_geq
variable{op:BinOp}
def j3c{a b:Int}(h:f_op op k a b=some v)(t:TypeId)(x y:Operand)(w:World) :
  (do eqGuard op t x y (.int k a) (.int k b);binOp op t (.int k a) (.int k b):Sem Value).run P w=.ok (v.cv ρ) w∧∀ n,v.bd n:=by
 have gd:∀ op,(eqGuard op t x y (.int k a) (.int k b)).run P w=.ok () w:=fun op=>t6 op t x y k k a b;cases op<;>simp only[f_op,f_no,reduceCtorEq] at h
 case add=>obtain⟨h1,rfl⟩:=z5j h;change inK k (a+b) at h1;refine⟨?_,fun _=>trivial⟩;simp only[yye,gd,yyb,binOp,ne_eq,not_true_eq_false,if_false,Op.intArith,yyf,s6 h1,RV.cv];rfl
 case sub=>obtain⟨h1,rfl⟩:=z5j h;change inK k (a-b) at h1;refine⟨?_,fun _=>trivial⟩;simp only[yye,gd,yyb,binOp,ne_eq,not_true_eq_false,if_false,Op.intArith,yyf,s6 h1,RV.cv];rfl
 case mul=>obtain⟨h1,rfl⟩:=z5j h;change inK k (a*b) at h1;refine⟨?_,fun _=>trivial⟩;simp only[yye,gd,yyb,binOp,ne_eq,not_true_eq_false,if_false,Op.intArith,yyf,s6 h1,RV.cv];rfl
 case and=>
  unfold f_and at h;cases hg:iNn a&&iNn b&&inR k a&&inR k b
  ·rw[hg] at h;cases h
  ·rw[hg,cond_true,yya] at h;subst h;simp only[yyd] at hg;refine⟨?_,fun _=>trivial⟩;have:=j0m (P:=P) (w:=w) (z7a hg.1.1.1) (z7a hg.1.1.2) (z3n hg.1.2) (z3n hg.2);simp only[yye,gd,yyb,binOp,ne_eq,not_true_eq_false,if_false,this,RV.cv];rfl
 case or=>
  unfold f_or at h;cases hg:iNn a&&iNn b&&inR k a&&inR k b
  ·rw[hg] at h;cases h
  ·rw[hg,cond_true,yya] at h;subst h;simp only[yyd] at hg;refine⟨?_,fun _=>trivial⟩;have:=run_or (P:=P) (w:=w) (z7a hg.1.1.1) (z7a hg.1.1.2) (z3n hg.1.2) (z3n hg.2);simp only[yye,gd,yyb,binOp,ne_eq,not_true_eq_false,if_false,this,RV.cv];rfl
 case eql=>simp only[f_eql,yya] at h;subst h;refine⟨?_,fun _=>trivial⟩;simp[gd,binOp,Op.intCmp,RV.cv,z3p]
 case neq=>simp only[f_neq,yya] at h;subst h;refine⟨?_,fun _=>trivial⟩;simp[gd,binOp,Op.intCmp,RV.cv,z3p];rfl
 case lss=>simp only[f_lss,yya] at h;subst h;refine⟨?_,fun _=>trivial⟩;simp[gd,binOp,Op.intCmp,RV.cv,z7b]
 case leq=>simp only[f_leq,yya] at h;subst h;refine⟨?_,fun _=>trivial⟩;simp[gd,binOp,Op.intCmp,RV.cv,z7b];rw[yy5];simp
 case gtr=>simp only[f_gtr,yya] at h;subst h;refine⟨?_,fun _=>trivial⟩;simp[gd,binOp,Op.intCmp,RV.cv,z7b]
 case geq=>simp only[f_geq,yya] at h;subst h;refine⟨?_,fun _=>trivial⟩;simp[gd,binOp,Op.intCmp,RV.cv,z7b];rw[yy5];simp
def kEq(a b:IntKind):Bool:=Nat.beq a.ctorIdx b.ctorIdx
def j2r{a b:IntKind}(h:kEq a b=true):a=b:=by cases a<;>cases b<;>first|rfl|(exact absurd h (by decide))
def f_bin(op:BinOp)(u v:RV):Option RV:=
 match u with
 |.i k a=>(match v with
  |.i k' b=>bif kEq k k' then f_op op k a b else none
  |_=>none)
 |_=>none
def bnR0(P:Program)(op:BinOp)(t:TypeId)(x y:Operand)(u v:RV):Option RV:=
 match u.sc with
 |some p=>(match v.sc with
  |some q=>(match evS P (do eqGuard op t x y p q;binOp op t p q) with
   |some r=>RV.ofV r
   |none=>none)
  |none=>none)
 |none=>(match nlR P t u v with
  |some b=>(match op with
   |.eql=>some (.b b)
   |.neq=>some (.b !b)
   |_=>none)
  |none=>none)
noncomputable section
def isI(k:IntKind)(v:RV):Bool:=@RV.rec (fun _=>Bool) (fun k' _=>kEq k k') (fun _=>false) (false) (false) (false) (false) (false) (fun _ _=>false) (fun _ _ _ _=>false) (fun _ _ _ _ _ _=>false) (fun _=>false) (fun _=>false) (fun _=>false) (fun _ _ _ _ _=>false) (fun _ _=>false) (fun _ _=>false) (false) (fun _ _ _ _=>false) v
def hdI(v:RV):Int:=@RV.rec (fun _=>Int) (fun _ z=>z) (fun _=>0) (0) (0) (0) (0) (0) (fun _ _=>0) (fun _ _ _ _=>0) (fun _ _ _ _ _ _=>0) (fun _=>0) (fun _=>0) (fun _=>0) (fun _ _ _ _ _=>0) (fun _ _=>0) (fun _ _=>0) (0) (fun _ _ _ _=>0) v
def allI(k:IntKind)(v:RV):Nat→Bool:=@RV.rec (fun _=>Nat→Bool) (fun _ _ _=>false) (fun _ _=>false) (fun _=>false) (fun _=>false) (fun _=>false) (fun _=>false) (fun _=>false) (fun _ _ _=>false) (fun _ _ _ _ _=>false) (fun _ _ _ _ _ _ _=>false) (fun _ _=>false) (fun _ _=>false) (fun _ _=>false) (fun _ _ _ _ _ _=>false) (fun _ _ _=>false) (fun _ _ _=>false) (fun n=>Nat.beq n 0) (fun x _ _ ih n=>bAnd (isI k x) (bAnd (Nat.blt 0 n) (ih (Nat.sub n 1)))) v
def eqI2(v:RV):Int→(RV→Bool)→Bool:=@RV.rec (fun _=>Int→(RV→Bool)→Bool) (fun _ _ _ _=>false) (fun _ _ _=>false) (fun _ _=>false) (fun _ _=>false) (fun _ _=>false) (fun _ _=>false) (fun _ _=>false) (fun _ _ _ _=>false) (fun _ _ _ _ _ _=>false) (fun _ _ _ _ _ _ _ _=>false) (fun _ _ _=>false) (fun _ _ _=>false) (fun _ _ _=>false) (fun _ _ _ _ _ _ _=>false) (fun _ _ _ _=>false) (fun _ _ _ _=>false) (fun _ _=>false) (fun y r _ _ z f=>bAnd (iEq z (hdI y)) (f r)) v
def eqI(v:RV):RV→Bool:=@RV.rec (fun _=>RV→Bool) (fun _ _ _=>true) (fun _ _=>true) (fun _=>true) (fun _=>true) (fun _=>true) (fun _=>true) (fun _=>true) (fun _ _ _=>true) (fun _ _ _ _ _=>true) (fun _ _ _ _ _ _ _=>true) (fun _ _=>true) (fun _ _=>true) (fun _ _=>true) (fun _ _ _ _ _ _=>true) (fun _ _ _=>true) (fun _ _ _=>true) (fun _=>true) (fun x _ _ ih b=>eqI2 b (hdI x) ih) v
def arO(P:Program)(t:TypeId):Option (Nat×IntKind):=
 match evS P (underlying t) with
 |some (.array len elem)=>(match evS P (underlying elem) with
  |some (.int k)=>bif eqtB P (.arr len (.int k)) t then some (len,k) else none
  |_=>none)
 |_=>none
def arR(P:Program)(op:BinOp)(t:TypeId)(u v:RV):Option RV:=
 match u with
 |.g a=>(match v with
  |.g b=>(match op with
   |.eql=>(match arO P t with
    |some q=>bif bAnd (allI q.2 a q.1) (allI q.2 b q.1) then some (.b (eqI a b)) else none
    |none=>none)
   |.neq=>(match arO P t with
    |some q=>bif bAnd (allI q.2 a q.1) (allI q.2 b q.1) then some (.b (!eqI a b)) else none
    |none=>none)
   |_=>none)
  |_=>none)
 |_=>none
end
def z76{x r:RV}(h:allI k (.cons x r) n=true):∃ z m,x=.i k z∧n=m+1∧allI k r m=true:=by
 obtain⟨h1,h2⟩:=v4.1 (show bAnd (isI k x) (bAnd (Nat.blt 0 n) (allI k r (Nat.sub n 1)))=true from h);obtain⟨h2,h3⟩:=v4.1 h2;cases x<;>first|(cases h1;done)|skip
 rename_i k' z;have:=j2r (show kEq k k'=true from h1);subst this;have hn:0<n:=by simpa using h2
 exact⟨z,n-1,rfl,by omega,h3⟩
def j4s(h:allI k .nil n=true):n=0:=yyi h
def z74(h:allI k v n=true):v=.nil∨∃ x r,v=.cons x r:=by cases v<;>first|(cases h;done)|exact .inl rfl|exact .inr ⟨_,_,rfl⟩
def z75{k:IntKind}{ρ:Env}:∀ {n:Nat} {v:RV},allI k v n=true→(v.cl ρ).length=n∧∀ i,i<n→∃ z,(v.cl ρ)[i]?=some (.int k z)
 |n,v,h=>by
  rcases z74 h with rfl|⟨x,r,rfl⟩
  ·have:=j4s h;subst this;exact⟨rfl,fun i hi=>absurd hi (Nat.not_lt_zero _)⟩
  ·obtain⟨z,m,rfl,rfl,h'⟩:=z76 h;obtain⟨e1,e2⟩:=z75 (n:=m) (v:=r) h';refine⟨by rw[RV.cl,List.length_cons,e1],fun i hi=>?_⟩;cases i with
   |zero=>exact⟨z,rfl⟩
   |succ i=>obtain⟨y,hy⟩:=e2 i (by omega);exact⟨y,by rw[RV.cl,yxi];exact hy⟩
def j3i{k:IntKind}{ρ:Env}:∀ {n:Nat} {a b:RV},allI k a n=true→allI k b n=true→(eqI a b=true↔a.cl ρ=b.cl ρ)
 |n,a,b,ha,hb=>by
  rcases z74 ha with rfl|⟨x,r,rfl⟩
  ·have:=j4s ha;subst this;rcases z74 hb with rfl|⟨y,q,rfl⟩
   ·exact⟨fun _=>rfl,fun _=>rfl⟩
   ·obtain⟨_,m,_,hm,_⟩:=z76 hb;cases hm
  ·obtain⟨z,m,rfl,rfl,ha'⟩:=z76 ha;rcases z74 hb with rfl|⟨y,q,rfl⟩
   ·have:=j4s hb;cases this
   ·obtain⟨z',m',rfl,hm,hb'⟩:=z76 hb;have:m=m':=by omega
    subst this;have ih:=j3i (ρ:=ρ) ha' hb';have e:eqI (.cons (.i k z) r) (.cons (.i k z') q)=bAnd (iEq z z') (eqI r q):=rfl;rw[e,v4,ih,z3p,beq_iff_eq,RV.cl,RV.cl];simp[RV.cv]
def arR_ok{u v r:RV}(h:arR P op t u v=some r)(x y:Operand):(∀ n,r.bd n)∧∀ w,(do eqGuard op t x y (u.cv ρ) (v.cv ρ);binOp op t (u.cv ρ) (v.cv ρ):Sem Value).run P w=.ok (r.cv ρ) w:=by
 have key:∀ {a b:RV} {q:Nat×IntKind},arO P t=some q→allI q.2 a q.1=true→allI q.2 b q.1=true→P.eqGuardType P.depth t=false∧∀ w,(Op.equal t (.agg (a.cl ρ).toArray) (.agg (b.cl ρ).toArray)).run P w=.ok (eqI a b) w:=fun {a b q} hq h1 h2=>by
  unfold arO at hq;split at hq
  ·split at hq
   ·rename_i len elem _ _ k _;cases hb:eqtB P (.arr len (.int k)) t
    ·rw[hb] at hq;cases hq
    ·rw[hb,cond_true] at hq;injection hq with hq;subst hq
     have hT:=EqT.of hb;refine⟨hT.gt,fun w=>?_⟩;have fl:∀ {v:RV},allI k v len=true→Fl (.arr len (.int k)) (v.cl ρ):=fun {v} hv=>by obtain⟨e1,e2⟩:=z75 (ρ:=ρ) hv;refine⟨by rw[e1];simp[Ty.size],fun i hi=>?_⟩;obtain⟨z,hz⟩:=e2 i hi;refine⟨z,?_⟩;show((v.cl ρ).drop (i*1)).take 1=[.int k z];rw[Nat.mul_one];obtain⟨hlt,hz⟩:=yxc.1 hz;rw[yy8 hlt,hz];rfl
     obtain⟨b',hr,hb'⟩:=(z3t (P:=P) (.arr len (.int k))).1 t 10000 hT.key.ty hT.key.ok hT.key.dep w _ _ (fl h1) (fl h2);have:b'=eqI a b:=by rw[yy5,hb'];exact(j3i h1 h2).symm
     rw[← this];exact hr
   ·cases hq
  ·cases hq
 unfold arR at h;split at h
 ·rename_i a;split at h
  ·rename_i b;split at h
   ·split at h
    ·rename_i q hq;cases hb:bAnd (allI q.2 a q.1) (allI q.2 b q.1)
     ·rw[hb] at h;cases h
     ·rw[hb,cond_true] at h;injection h with h;subst h
      obtain⟨h1,h2⟩:=v4.1 hb;obtain⟨k1,k2⟩:=key hq h1 h2;exact⟨fun _=>trivial,fun w=>by simp only[RV.cv,yye,run_eqGuard_agg w _ _ _ _ _ _ k1,yyb,binOp,k2,yyf]⟩
    ·cases h
   ·split at h
    ·rename_i q hq;cases hb:bAnd (allI q.2 a q.1) (allI q.2 b q.1)
     ·rw[hb] at h;cases h
     ·rw[hb,cond_true] at h;injection h with h;subst h
      obtain⟨h1,h2⟩:=v4.1 hb;obtain⟨k1,k2⟩:=key hq h1 h2;exact⟨fun _=>trivial,fun w=>by simp only[RV.cv,yye,run_eqGuard_agg w _ _ _ _ _ _ k1,yyb,binOp,k2,yyf]⟩
    ·cases h
   ·cases h
  ·cases h
 ·cases h
def bnR(P:Program)(op:BinOp)(t:TypeId)(x y:Operand)(u v:RV):Option RV:=
 match f_bin op u v with
 |some r=>some r
 |none=>(match arR P op t u v with
  |some r=>some r
  |none=>bnR0 P op t x y u v)
variable{b:Bool}
def eq_runR{x y:Value}(h:∀ w,(Op.equal t x y).run P w=.ok b w)(e1:binOp .eql t x y=(do pure (.bool (← Op.equal t x y))))(e2:binOp .neq t x y=(do pure (.bool (!(← Op.equal t x y))))) :
  (∀ w,(binOp .eql t x y).run P w=.ok (.bool b) w)∧∀ w,(binOp .neq t x y).run P w=.ok (.bool !b) w:=
 ⟨fun w=>by rw[e1];simp only[yye,h,yyb,yyf],fun w=>by rw[e2];simp only[yye,h,yyb,yyf]⟩
def q84{x y:Value}(h:∀ d w,(Op.equalIn (d+1) t x y).run P w=.ok b w):∀ w,(Op.equal t x y).run P w=.ok b w:=fun w=>h 9999 w
def nlR_ok(h:nlR P t u v=some b):(∀ op x y w,(eqGuard op t x y (u.cv ρ) (v.cv ρ)).run P w=.ok () w) ∧
  (∀ w,(Op.equal t (u.cv ρ) (v.cv ρ)).run P w=.ok b w)∧(∀ w,(binOp .eql t (u.cv ρ) (v.cv ρ)).run P w=.ok (.bool b) w)∧∀ w,(binOp .neq t (u.cv ρ) (v.cv ρ)).run P w=.ok (.bool !b) w:=by
 have fin:∀ {x y:Value} {b:Bool},(∀ op p q w,(eqGuard op t p q x y).run P w=.ok () w)→(∀ d w,(Op.equalIn (d+1) t x y).run P w=.ok b w)→binOp .eql t x y=(do pure (.bool (← Op.equal t x y))) →
   binOp .neq t x y=(do pure (.bool (!(← Op.equal t x y))))→(∀ op p q w,(eqGuard op t p q x y).run P w=.ok () w)∧(∀ w,(Op.equal t x y).run P w=.ok b w)∧(∀ w,(binOp .eql t x y).run P w=.ok (.bool b) w) ∧
   ∀ w,(binOp .neq t x y).run P w=.ok (.bool !b) w:=fun g h e1 e2=>⟨g,q84 h,eq_runR (q84 h) e1 e2⟩
 unfold nlR at h;split at h
 ·rename_i e hU;split at h<;>simp only[yya,reduceCtorEq] at h<;>subst h <;>
   (refine fin (fun op p q w=>?_) (fun d w=>?_) rfl rfl
    ·cases op<;>simp[eqGuard,RV.cv]
    ·unfold Op.equalIn;simp only[yye,w4 hU,yyb,RV.cv,yyf];try rfl)
 ·rename_i e hU;split at h<;>simp only[yya,reduceCtorEq] at h<;>subst h <;>
   (refine fin (fun op p q w=>?_) (fun d w=>?_) rfl rfl
    ·cases op<;>simp[eqGuard,RV.cv]
    ·unfold Op.equalIn;simp only[yye,w4 hU,yyb,RV.cv,yyf])
 ·rename_i e hU;split at h<;>simp only[yya,reduceCtorEq] at h<;>subst h <;>
   (refine fin (fun op p q w=>?_) (fun d w=>?_) rfl rfl
    ·cases op<;>simp[eqGuard,RV.cv]
    ·unfold Op.equalIn;simp only[yye,w4 hU,yyb,RV.cv,yyf])
 ·cases h
def bnR0_ok{u v r:RV}(h:bnR0 P op t x y u v=some r):(∀ n,r.bd n)∧∀ w,(do eqGuard op t x y (u.cv ρ) (v.cv ρ);binOp op t (u.cv ρ) (v.cv ρ):Sem Value).run P w=.ok (r.cv ρ) w:=by
 unfold bnR0 at h;split at h
 ·rename_i p hp;split at h
  ·rename_i q hq;split at h
   ·rename_i z hz;rw[q1c hp ρ,q1c hq ρ];refine⟨fun n=>(q03 h ρ n).2,fun w=>?_⟩;rw[(q03 h ρ 0).1];exact w4 hz w
   ·cases h
  ·cases h
 ·split at h
  ·rename_i b hb;obtain⟨e1,_,e2,e3⟩:=nlR_ok (ρ:=ρ) hb;split at h<;>simp only[yya,reduceCtorEq] at h<;>subst h<;>refine⟨fun _=>trivial,fun w=>?_⟩<;>simp only[yye,e1,yyb]
   ·exact e2 w
   ·exact e3 w
  ·cases h
def bnR_ok{u v r:RV}(h:bnR P op t x y u v=some r):(∀ n,r.bd n)∧∀ w,(do eqGuard op t x y (u.cv ρ) (v.cv ρ);binOp op t (u.cv ρ) (v.cv ρ):Sem Value).run P w=.ok (r.cv ρ) w:=by
 unfold bnR at h;split at h
 ·rename_i r' hf;simp only[yya] at h;subst h;cases u<;>simp only[f_bin,reduceCtorEq] at hf
  cases v<;>simp only[reduceCtorEq] at hf
  rename_i k a k' b;cases hk:kEq k k'
  ·rw[hk] at hf;cases hf
  ·rw[hk,cond_true] at hf;have:=j2r hk;subst this;exact⟨(j3c (P:=P) (ρ:=ρ) hf t x y default).2,fun w=>(j3c hf t x y w).1⟩
 ·split at h
  ·rename_i r' hr;injection h with h;subst h
   exact arR_ok hr x y
  ·exact bnR0_ok h
end
end Ox
namespace Ox
noncomputable section
open Go Go.RowKit
variable {X:Ctx}{s:RS}{M:Mem}{ρ:Env}{a:Act}{w w1:World}{P:Program}
abbrev Ents:=List (RV×RV×Nat)
def toME(ρ:Env)(x:RV×RV×Nat):MapEntry:=⟨x.1.cv ρ,x.2.1.cv ρ,x.2.2⟩
def fkR(P:Program)(kt:TypeId)(k:Value):Ents→Nat→Option (Option (Nat×RV))
 |[],_=>some none
 |x::r,j=>match x.1.sc with
  |some e=>(match evS P (Op.equal kt k e) with
   |some true=>some (some (j,x.2.1))
   |some false=>fkR P kt k r (j+1)
   |none=>none)
  |none=>none
variable{d:TypeDesc}{b:Bool}
def now_eq{x y:Value}(hd:evS P (underlying kt)=some d)(h:Instr.sameNow d x y=some b):∀ w,(Op.equal kt x y).run P w=.ok b w:=by
 unfold Instr.sameNow at h;split at h
 ·split at h
  ·rename_i hk;simp only[yya] at h;subst h hk;exact q84 fun n w=>by unfold Op.equalIn;simp only[yye,w4 hd,yyb,if_true,yyf]
  ·cases h
 ·simp only[yya] at h;subst h;exact q84 fun n w=>by unfold Op.equalIn;simp only[yye,w4 hd,yyb,yyf]
 ·simp only[yya] at h;subst h;exact q84 fun n w=>by unfold Op.equalIn;simp only[yye,w4 hd,yyb,yyf]
 ·cases h
def mapRes(ρ:Env)(r:Option (Nat×RV)):Option (Nat×Value):=r.map fun p=>(p.1,p.2.cv ρ)
def fkNow{kt:TypeId}{d:TypeDesc}{k:Value}(hd:evS P (underlying kt)=some d)(w:World):∀ {es:Ents} {j:Nat} {r:Option (Nat×RV)} {q:Option (Nat×Value)},fkR P kt k es j=some r →
  Instr.findNow d k (es.map (toME ρ)) j=some q→q=mapRes ρ r
 |[],j,r,q,h,hn=>by simp only[fkR,yya] at h;subst h;simp only[List.map_nil,Instr.findNow,yya] at hn;subst hn;rfl
 |x::es,j,r,q,h,hn=>by
  simp only[fkR] at h;split at h
  ·rename_i e he;simp only[yy4,Instr.findNow,toME,q1c he ρ] at hn;have both:∀ {b b':Bool},evS P (Op.equal kt k e)=some b→Instr.sameNow d k e=some b'→b=b':=fun h1 h2=>by have:=(w4 h1 w).symm.trans (now_eq hd h2 w);injection this
   split at h
   ·rename_i hq;simp only[yya] at h;subst h;split at hn
    ·simp only[yya] at hn;subst hn;rfl
    ·rename_i h2;exact absurd (both hq h2) (by simp)
    ·cases hn
   ·rename_i hq;split at hn
    ·rename_i h2;exact absurd (both hq h2) (by simp)
    ·exact fkNow hd w h hn
    ·cases hn
   ·cases h
  ·cases h
def fkAsk{kt:TypeId}{k:Value}:∀ {es:Ents} {j:Nat} {r:Option (Nat×RV)},fkR P kt k es j=some r→∀ w,(Instr.findAsking kt k (es.map (toME ρ)) j).run P w=.ok (mapRes ρ r) w
 |[],j,r,h,w=>by simp only[fkR,yya] at h;subst h;simp[Instr.findAsking,mapRes]
 |x::es,j,r,h,w=>by
  simp only[fkR] at h;split at h
  ·rename_i e he;simp only[yy4,Instr.findAsking,toME,q1c he ρ];split at h
   ·rename_i hq;simp only[yya] at h;subst h;simp only[yye,w4 hq,yyb,if_true,yyf];rfl
   ·rename_i hq;simp only[yye,w4 hq,yyb,yyt,if_false];exact fkAsk h w
   ·cases h
  ·cases h
variable{es:Ents}{r:Option (Nat×RV)}
def fk_run{k:Value}(hd:evS P (underlying kt)=some d)(h:fkR P kt k es 0=some r)(w:World) :
  (Instr.findKey kt k (es.map (toME ρ))).run P w=.ok (mapRes ρ r) w:=by
 unfold Instr.findKey;simp only[yye,w4 hd,yyb];split
 ·rename_i hq;rw[fkNow hd w h hq,yyf]
 ·exact fkAsk h w
def keyR(P:Program)(t:TypeId)(es:Ents)(empty:Bool)(k:RV):Option (TypeId×TypeId×Option (Nat×RV)):=
 match evS P (underlying t) with
 |some (.map kt et)=>(match evS P (underlying kt) with
  |some _=>(match k.sc with
   |some kv=>(match evS P (Instr.checkKey empty 10000 kt kv) with
    |some _=>(match fkR P kt kv es 0 with
     |some r=>some (kt,et,r)
     |none=>none)
    |none=>none)
   |none=>none)
  |none=>none)
 |_=>none
variable{k v:RV}
def z1n(h:keyR P t es empty k=some (kt,et,r)) :
  (∀ w,(underlying t).run P w=.ok (.map kt et) w)∧(∀ w,(Instr.checkKey empty 10000 kt (k.cv ρ)).run P w=.ok () w)∧∀ w,(Instr.findKey kt (k.cv ρ) (es.map (toME ρ))).run P w=.ok (mapRes ρ r) w:=by
 unfold keyR at h;split at h
 ·rename_i hU;split at h
  ·rename_i hd;split at h
   ·rename_i kv hk;split at h
    ·rename_i hc;split at h
     ·rename_i hf;simp only[yya,yyp] at h;obtain⟨rfl,rfl,rfl⟩:=h;rw[q1c hk ρ];exact⟨fun w=>w4 hU w,fun w=>w4 hc w,fun w=>fk_run hd hf w⟩
     ·cases h
    ·cases h
   ·cases h
  ·cases h
 ·cases h
def j27{kt:TypeId}{k:Value}:∀ {es:Ents} {j i:Nat} {v:RV},fkR P kt k es j=some (some (i,v))→∃ e∈es,e.2.1=v
 |[],j,i,v,h=>by simp[fkR] at h
 |x::es,j,i,v,h=>by
  simp only[fkR] at h;split at h
  ·split at h
   ·simp only[yya,yyp] at h;exact⟨x,yyg,h.2⟩
   ·obtain⟨e,h1,h2⟩:=j27 h;exact⟨e,yyh _ h1,h2⟩
   ·cases h
  ·cases h
def z67(h:keyR P t es empty k=some (kt,et,some (i,v))):∃ e∈es,e.2.1=v:=by
 unfold keyR at h;split at h
 ·split at h
  ·split at h
   ·split at h
    ·split at h
     ·rename_i hf;simp only[yya,yyp] at h;obtain⟨_,_,e⟩:=h;rw[e] at hf;exact j27 hf
     ·cases h
    ·cases h
   ·cases h
  ·cases h
 ·cases h
def okT(v:RV)(b:Bool)(ok:Bool):RV:=bif ok then .t (.cons v (.cons (.b b) .nil)) else v
noncomputable def lkR(P:Program)(H:Hg)(t:TypeId)(x k:RV)(ok:Bool):Option RV:=
 match x with
 |.m l=>(match hq H l with
  |some (.map es _)=>(match keyR P t es es.isEmpty k with
   |some (_,et,r)=>(match r with
    |some (_,v)=>some (okT v true ok)
    |none=>(match evS P (zeroValue et) with
     |some z=>(match RV.ofV z with
      |some v=>some (okT v false ok)
      |none=>none)
     |none=>none))
   |none=>none)
  |_=>none)
 |_=>none
def okT_bd(h:v.bd n):(okT v b ok).bd n:=by cases ok<;>simp[okT,RV.bd,h]
def lkR_ok(h1:SAT X M ρ s.toS w){x k v:RV}(h:lkR P s.H t x k ok=some v):v.bd s.nx∧∀ w1,Below w.heap.size w w1→(Instr.lookup t (x.cv ρ) (k.cv ρ) ok).run P w1=.ok (v.cv ρ) w1:=by
 unfold lkR at h;split at h
 ·rename_i l;split at h
  ·rename_i es clk hl;obtain⟨_,hbd,hok⟩:=q0n h1 hl;simp only[RO.toHO,HO.ok,HO.bd] at hok hbd;obtain⟨_,ms,hheap,hms⟩:=hok;have hms':ms.toList=es.map (toME ρ):=hms;have he:ms.isEmpty=es.isEmpty:=by
    have:ms.size=es.length:=by rw[← Array.length_toList,hms,yxy]
    cases es<;>simp_all[Array.isEmpty]
   have go:∀ {kt et:TypeId} {r:Option (Nat×RV)} {z:Value},keyR P t es es.isEmpty k=some (kt,et,r)→(match r with|some p=>z=p.2.cv ρ|none=>evS P (zeroValue et)=some z) →
     ∀ w1,Below w.heap.size w w1→(Instr.lookup t (RV.cv ρ (.m l)) (k.cv ρ) ok).run P w1=.ok (if ok then .tuple #[z,.bool r.isSome] else z) w1:=by
    intro kt et r z hk hz w1 hw;obtain⟨k1,k2,k3⟩:=z1n (ρ:=ρ) hk;have hh:w1.heap[ρ.blk l]?=some (.map ms clk):=by rw[hw.block _ (yym.1 hheap).1];exact hheap
    unfold Instr.lookup;simp only[yye,k1,yyb,RV.cv,getObj,Sem.run,hh,yyf,he,k2,hms',k3];cases r with
    |some p=>subst hz;simp[mapRes]
    |none=>simp[mapRes,w4 hz]
   split at h
   ·rename_i r hk;split at h
    ·simp only[yya] at h;subst h;obtain⟨e,he1,he2⟩:=z67 hk;refine⟨okT_bd (by rw[← he2];exact(hbd e he1).2),fun w1 hw=>(go hk rfl w1 hw).trans ?_⟩;cases ok<;>rfl
    ·split at h
     ·rename_i hz;split at h
      ·rename_i z v hv;simp only[yya] at h;subst h;have ev:=q03 hv ρ s.nx;refine⟨okT_bd ev.2,fun w1 hw=>(go (z:=v.cv ρ) hk (by rw[ev.1];exact hz) w1 hw).trans ?_⟩;cases ok<;>rfl
      ·cases h
     ·cases h
   ·cases h
  ·cases h
 ·cases h
end
end Ox
namespace Ox
open Go Go.RowKit
noncomputable section
variable {X:Ctx}{s:RS}{M:Mem}{ρ:Env}{a:Act}{w w1:World}{P:Program}
def RV.one:RV→Bool
 |.g _|.t _|.u|.nil|.cons _ _=>false
 |_=>true
def RV.ones:RV→Bool
 |.cons a r=>a.one&&r.ones
 |_=>true
def q3l{r:RV}(h:r.one=true)(ρ:Env):(r.cv ρ).oneCell'=true:=by cases r<;>first|rfl|cases h
def q6z:∀ {r:RV},r.ones=true→∀ (ρ:Env) (v:Value),v∈r.cl ρ→v.oneCell'=true
 |.cons a r,h,ρ,v,hv=>by
  simp only[RV.ones,yyd] at h;simp only[RV.cl,yyk] at hv;rcases hv with rfl|hv
  ·exact q3l h.1 ρ
  ·exact q6z h.2 ρ v hv
 |.i ..,_,_,_,h|.b _,_,_,_,h|.np,_,_,_,h|.ns,_,_,_,h|.fz,_,_,_,h|.nm,_,_,_,h|.u,_,_,_,h|.nil,_,_,_,h|.p ..,_,_,_,h|.s ..,_,_,_,h|.m _,_,_,_,h|.it _,_,_,_,h|.y _,_,_,_,h|.o ..,_,_,_,h|.f ..,_,_,_,h|.g _,_,_,_,h|.t _,_,_,_,h=>by simp[RV.cl] at h
def q2e:∀ {r:RV} {q:Nat},r.ones=true→q<r.len→(r.nth q).one=true
 |.cons a r,0,h,_=>by simp only[RV.ones,yyd] at h;exact h.1
 |.cons a r,q+1,h,hq=>by simp only[RV.ones,yyd] at h;exact q2e (r:=r) h.2 (by rw[f9] at hq;omega)
 |.i ..,_,_,h|.b _,_,_,h|.np,_,_,h|.ns,_,_,h|.fz,_,_,h|.nm,_,_,h|.u,_,_,h|.nil,_,_,h|.p ..,_,_,h|.s ..,_,_,h|.m _,_,_,h|.it _,_,_,h|.y _,_,_,h|.o ..,_,_,h|.f ..,_,_,h|.g _,_,_,h|.t _,_,_,h=>absurd h (Nat.not_lt_zero _)
def RV.cel(r:RV):Option RV:=
 match r with
 |.g c=>bif c.ones then some c else none
 |r=>bif r.one then some (.cons r .nil) else none
def q55{r c:RV}(h:r.cel=some c)(ρ:Env)(hb:r.bd n):(r.cv ρ).cells=(c.cl ρ).toArray∧c.ones=true∧c.bd n:=by
 unfold RV.cel at h;split at h
 ·rename_i c';cases ho:c'.ones
  ·rw[ho] at h;cases h
  ·rw[ho,cond_true,yya] at h;subst h;exact⟨rfl,ho,hb⟩
 ·cases ho:r.one
  ·rw[ho] at h;cases h
  ·rw[ho,cond_true,yya] at h;subst h;exact⟨q02 (q3l ho ρ),by simp[RV.ones,ho],hb,trivial⟩
def RV.app:RV→RV→RV
 |.cons a r,q=>.cons a (r.app q)
 |_,q=>q
def q1w(ρ:Env)(q:RV):∀ r:RV,(r.app q).cl ρ=r.cl ρ++q.cl ρ
 |.cons a r=>by simp only[RV.app,RV.cl,q1w ρ q r,List.cons_append]
 |.i ..|.b _|.np|.ns|.fz|.nm|.u|.nil|.p ..|.s ..|.m _|.it _|.y _|.o ..|.f ..|.g _|.t _=>rfl
def q04{n:Nat}{q:RV}(hq:q.bd n):∀ {r:RV},r.bd n→(r.app q).bd n
 |.cons a r,h=>⟨h.1,q04 hq h.2⟩
 |.i ..,_|.b _,_|.np,_|.ns,_|.fz,_|.nm,_|.u,_|.nil,_|.p ..,_|.s ..,_|.m _,_|.it _,_|.y _,_|.o ..,_|.f ..,_|.g _,_|.t _,_=>hq
def RV.spl(cs:RV)(off:Nat)(r:RV):RV:=(cs.tk off).app (r.app (cs.drp (off+r.len)))
def j4y(ρ:Env)(cs:RV)(off:Nat)(r:RV):(cs.spl off r).cl ρ=splice (cs.cl ρ) off (r.cl ρ):=by simp only[RV.spl,q1w,q53,q9k,splice,j8,yxb]
def j4z{cs r:RV}(h1:cs.bd n)(h2:r.bd n):(cs.spl off r).bd n:=q04 (q04 (q9l h1) h2) (q7y h1)
def fillR(pl:Nat→Option (Nat×Nat))(L:List (Nat×RV)):RV→List (Nat×Operand)→Option RV
 |cs,[]=>some cs
 |cs,p::r=>match pl p.1 with
  |some (off,size)=>(match opv L p.2 with
   |some v=>(match v.cel with
    |some c=>bif Nat.beq c.len size&&Nat.ble (off+size) cs.len then fillR pl L (cs.spl off c) r else none
    |none=>none)
   |none=>none)
  |none=>none
def q7u(h2:REG X M ρ s.toS a){pl:Nat→Option (Nat×Nat)}:∀ {ps:List (Nat×Operand)} {cs v:RV},fillR pl s.L cs ps=some v→cs.bd s.nx →
  v.bd s.nx∧Instr.fill pl (cs.cl ρ).toArray (ps.map fun p=>(p.1,a.eval p.2))=some (v.cl ρ).toArray
 |[],cs,v,h,hb=>by simp only[fillR,yya] at h;subst h;exact⟨hb,rfl⟩
 |p::ps,cs,v,h,hb=>by
  simp only[fillR] at h;split at h
  ·rename_i off size hp;split at h
   ·rename_i u hu;split at h
    ·rename_i c hc;cases hg:Nat.beq c.len size&&Nat.ble (off+size) cs.len
     ·rw[hg] at h;cases h
     ·rw[hg,cond_true] at h;simp only[yyd] at hg;have g1:=yyi hg.1;have g2:=yyc hg.2;have eu:=k7 h2 hu;obtain⟨c1,_,c3⟩:=q55 hc ρ eu.1;obtain⟨e1,e2⟩:=q7u h2 h (j4z hb c3);refine⟨e1,?_⟩;rw[yy4,z1x hp (by rw[eu.2,c1];simp[j8,g1]) (by simp[j8,g2]),eu.2,c1];rw[j4y] at e2;exact e2
    ·cases h
   ·cases h
  ·cases h
def zR(P:Program)(t:TypeId):Option RV:=
 match evS P (zeroValue t) with
 |some z=>(match RV.ofV z with
  |some r=>r.cel
  |none=>none)
 |none=>none
variable{c v:RV}
def z0v(h:zR P t=some c)(ρ:Env)(n:Nat):c.bd n∧c.ones=true∧∃ z,(∀ w,(zeroValue t).run P w=.ok z w)∧z.cells=(c.cl ρ).toArray∧∀ i,P.info? t=some i→i.zero=some z:=by
 unfold zR at h;split at h
 ·rename_i z hz;split at h
  ·rename_i r hr;have er:=q03 hr ρ n;obtain⟨c1,c2,c3⟩:=q55 h ρ er.2;refine⟨c3,c2,z,fun w=>w4 hz w,by rw[← er.1];exact c1,fun i hi=>?_⟩;have:=w4 hz default;simp only[zeroValue,typeInfo,yye,run_program,yyb,hi,yyf] at this;split at this
   ·rename_i hz';simp only[yyf,Result.ok.injEq,and_true] at this;rw[hz',this]
   ·simp[unsupported,Sem.run] at this
  ·cases h
 ·cases h
def plA(P:Program)(fs:Array Field):Option (Array (Nat×Nat)):=evS P (fs.mapM fun f=>do pure (f.offset,← Go.sizeOf f.type))
def bdR(P:Program)(L:List (Nat×RV))(t:TypeId)(ps:List (Nat×Operand)):Option RV:=
 match zR P t with
 |some z=>(match evS P (underlying t) with
  |some (.struct fs)=>(match plA P fs with
   |some pl=>(match fillR (pl[·]?) L z ps with
    |some c=>some (.g c)
    |none=>none)
   |none=>none)
  |some (.array _ elem)=>(match evS P (Go.sizeOf elem) with
   |some size=>(match fillR (fun i=>some (i*size,size)) L z ps with
    |some c=>some (.g c)
    |none=>none)
   |none=>none)
  |_=>none)
 |none=>none
def bdR_ok(h2:REG X M ρ s.toS a){ps:Array (Nat×Operand)}(h:bdR P s.L t ps.toList=some v) :
  v.bd s.nx∧∀ w,(Instr.build t (ps.map fun(i,x)=>(i,a.eval x))).run P w=.ok (v.cv ρ) w:=by
 unfold bdR at h;have hps:(ps.map fun(x:Nat×Operand)=>(x.1,a.eval x.2)).toList=ps.toList.map fun p=>(p.1,a.eval p.2):=by rw[yxk]
 split at h
 ·rename_i z hz;obtain⟨z1,_,zv,z2,z3,_⟩:=z0v hz ρ s.nx;split at h
  ·rename_i fs hU;split at h
   ·rename_i pl hpl;split at h
    ·rename_i c hc;simp only[yya] at h;subst h;obtain⟨e1,e2⟩:=q7u h2 hc z1;refine⟨e1,fun w=>?_⟩;have hpl':=w4 hpl w;unfold Instr.build;simp only[yye,z2,yyb,w4 hU,hpl',z3,hps];rw[e2];rfl
    ·cases h
   ·cases h
  ·rename_i k elem hU;split at h
   ·rename_i size hsz;split at h
    ·rename_i c hc;simp only[yya] at h;subst h;obtain⟨e1,e2⟩:=q7u h2 hc z1;refine⟨e1,fun w=>?_⟩;unfold Instr.build;simp only[yye,z2,yyb,w4 hU,w4 hsz,z3,hps];rw[e2];rfl
    ·cases h
   ·cases h
  ·cases h
 ·cases h
def opc(L:List (Nat×RV))(x:Operand):Option Value:=
 match opv L x with
 |some v=>v.sc
 |none=>none
def q5l(h2:REG X M ρ s.toS a){v:Value}(h:opc s.L x=some v):a.eval x=v:=by
 unfold opc at h;split at h
 ·rename_i r hr;rw[(k7 h2 hr).2,q1c h ρ]
 ·cases h
def opcs(L:List (Nat×RV)):List Operand→Option (List Value)
 |[]=>some []
 |x::r=>match opc L x with
  |some v=>(match opcs L r with
   |some l=>some (v::l)
   |none=>none)
  |none=>none
def z43(h2:REG X M ρ s.toS a):∀ {xs:List Operand} {l:List Value},opcs s.L xs=some l→xs.map a.eval=l
 |[],l,h=>by simp only[opcs,yya] at h;subst h;rfl
 |x::r,l,h=>by
  simp only[opcs] at h;split at h
  ·rename_i v hv;split at h
   ·rename_i l' hl;simp only[yya] at h;subst h;rw[yy4,q5l h2 hv,z43 h2 hl]
   ·cases h
  ·cases h
def fromS(P:Program)(q:Sem Value):Option RV:=
 match evS P q with
 |some v=>RV.ofV v
 |none=>none
variable{q:Sem Value}
def q0d{r:RV}(h:fromS P q=some r)(ρ:Env):(∀ n,r.bd n)∧∀ w,q.run P w=.ok (r.cv ρ) w:=by
 unfold fromS at h;split at h
 ·rename_i v hv;exact⟨fun n=>(q03 h ρ n).2,fun w=>by rw[(q03 h ρ 0).1];exact w4 hv w⟩
 ·cases h
noncomputable def q_pick(L:List (Nat×RV))(c x y:Operand):Option RV:=
 match opv L c with
 |some (.b z)=>bif z then opv L x else opv L y
 |_=>none
noncomputable def q_bin(P:Program)(L:List (Nat×RV))(op:BinOp)(t:TypeId)(x y:Operand):Option RV:=
 match opv L x with
 |some u=>(match opv L y with
  |some v=>bnR P op t x y u v
  |none=>none)
 |none=>none
noncomputable def q_un(P:Program)(L:List (Nat×RV))(op:UnOp)(x:Operand):Option RV:=
 match opc L x with
 |some p=>fromS P (Op.unary op p)
 |none=>none
noncomputable def q_conv(P:Program)(L:List (Nat×RV))(src dst:TypeId)(x:Operand):Option RV:=
 match opc L x with
 |some p=>fromS P (convert src dst p)
 |none=>none
noncomputable def q_ext(L:List (Nat×RV))(x:Operand)(i:Nat):Option RV:=
 match opv L x with
 |some (.t vs)=>bif Nat.blt i vs.len then some (vs.nth i) else none
 |_=>none
noncomputable def q_nil(L:List (Nat×RV))(x:Operand):Option RV:=
 match opv L x with
 |some (.p l o)=>some (.p l o)
 |some (.f g p q)=>some (.f g p q)
 |some (.y l)=>some (.y l)
 |_=>none
noncomputable def q_field(P:Program)(L:List (Nat×RV))(t:TypeId)(x:Operand)(i:Nat):Option RV:=
 match opv L x with
 |some v=>fdR P t v i
 |none=>none
noncomputable def q_fa(P:Program)(L:List (Nat×RV))(t:TypeId)(x:Operand)(i:Nat):Option RV:=
 match opv L x with
 |some v=>faR P t v i
 |none=>none
noncomputable def q_ia(P:Program)(s:RS)(t:TypeId)(x i:Operand):Option RV:=
 match (match x with|.global g=>opg s g|x=>opv s.L x) with
 |some v=>(match opv s.L i with
  |some u=>iaR P s.H t v u
  |none=>none)
 |none=>none
def j00(h1:SAT X M ρ s.toS w)(h2:REG X M ρ s.toS a)(h:(match x with|.global g=>opg s g|x=>opv s.L x)=some v):v.bd s.nx∧a.eval x=v.cv ρ:=by
 split at h
 ·exact opg_ok h1 h
 ·exact k7 h2 h
noncomputable def q_ix(P:Program)(s:RS)(t:TypeId)(x i:Operand):Option RV:=
 match x with
 |.const c=>(match opc s.L i with
  |some u=>fromS P (Instr.index t c u)
  |none=>none)
 |x=>(match opv s.L x with
  |some v=>(match opv s.L i with
   |some u=>ixR P t v u
   |none=>none)
  |none=>none)
noncomputable def q_ld(P:Program)(s:RS)(t:TypeId)(x:Operand):Option RV:=
 match opv s.L x with
 |some v=>ldR P s.H t v
 |none=>none
noncomputable def opvO(L:List (Nat×RV)):Option Operand→Option (Option RV)
 |none=>some none
 |some x=>match opv L x with
  |some v=>some (some v)
  |none=>none
noncomputable def q_sl(P:Program)(s:RS)(t:TypeId)(x:Operand)(lo hi mx:Option Operand):Option RV:=
 match opv s.L x with
 |some v=>(match opvO s.L lo with
  |some l=>(match opvO s.L hi with
   |some h=>(match opvO s.L mx with
    |some m=>slR P s.H t v l h m
    |none=>none)
   |none=>none)
  |none=>none)
 |none=>none
def q6l(h2:REG X M ρ s.toS a){x:Option Operand}{v:Option RV}(h:opvO s.L x=some v):x.map a.eval=v.map (RV.cv ρ):=by
 cases x with
 |none=>simp only[opvO,yya] at h;subst h;rfl
 |some x=>
  simp only[opvO] at h;split at h
  ·rename_i r hr;simp only[yya] at h;subst h;rw[yxg,yxg,(k7 h2 hr).2]
  ·cases h
noncomputable def q_mf(L:List (Nat×RV))(fn:Go.Fn)(first cap:Array Operand):Option RV:=
 match fn with
 |.func f=>(match opvs L first.toList with
  |some x=>(match opvs L cap.toList with
   |some y=>some (.f f x y)
   |none=>none)
  |none=>none)
 |_=>none
noncomputable def q_lk(P:Program)(s:RS)(t:TypeId)(x k:Operand)(ok:Bool):Option RV:=
 match opv s.L x with
 |some v=>(match opv s.L k with
  |some u=>lkR P s.H t v u ok
  |none=>none)
 |none=>none
noncomputable def q_ent(s:RS)(x:Operand):Option RV:=
 match opv s.L x with
 |some (.it l)=>(match hq s.H l with
  |some (.iter m _ _ last (some bk))=>(match hq s.H m with
   |some (.map es clk)=>bif Nat.beq clk last then(match es.find? (fun e=>Nat.beq e.2.2 bk) with
    |some e=>some (.t (.cons e.1 (.cons e.2.1 .nil)))
    |none=>none) else none
   |_=>none)
  |_=>none)
 |_=>none
noncomputable def q_len(P:Program)(s:RS)(args:List Operand)(tys:List TypeId):Option RV:=
 match args with
 |[x]=>(match tys with
  |[t]=>(match opv s.L x with
   |some v=>lnR P s.H t v
   |none=>none)
  |_=>none)
 |_=>none
noncomputable def q_cap(P:Program)(s:RS)(args:List Operand)(tys:List TypeId):Option RV:=
 match args with
 |[x]=>(match tys with
  |[t]=>(match opv s.L x with
   |some v=>cpR P t v
   |none=>none)
  |_=>none)
 |_=>none
noncomputable def q_min(P:Program)(L:List (Nat×RV))(args:List Operand):Option RV:=
 match opcs L args with
 |some l=>fromS P (Builtin.min_ #[] 0 l.toArray)
 |none=>none
noncomputable def q_max(P:Program)(L:List (Nat×RV))(args:List Operand):Option RV:=
 match opcs L args with
 |some l=>fromS P (Builtin.max_ #[] 0 l.toArray)
 |none=>none
noncomputable def q_call(P:Program)(s:RS)(c:Call):Option RV:=
 match c.callee with
 |.builtin b=>(match b with
  |.len=>q_len P s c.args.toList c.argTypes.toList
  |.cap=>q_cap P s c.args.toList c.argTypes.toList
  |.min=>q_min P s.L c.args.toList
  |.max=>q_max P s.L c.args.toList
  |_=>none)
 |_=>none
noncomputable def evR0(P:Program)(s:RS)(o:Op):Option RV:=
 match o with
 |.move x=>opv s.L x
 |.assign x=>opv s.L x
 |.pick c x y=>q_pick s.L c x y
 |.binOp op t x y _=>q_bin P s.L op t x y
 |.unOp op _ x=>q_un P s.L op x
 |.convert src dst x=>q_conv P s.L src dst x
 |.extract x i=>q_ext s.L x i
 |.nilCheck x=>q_nil s.L x
 |.field t x i=>q_field P s.L t x i
 |.fieldAddr t x i=>q_fa P s.L t x i
 |.indexAddr t x i=>q_ia P s t x i
 |.index t x i=>q_ix P s t x i
 |.load t x=>q_ld P s t x
 |.slice t x lo hi mx=>q_sl P s t x lo hi mx
 |.makeFunc fn first cap=>q_mf s.L fn first cap
 |.lookup t x k ok=>q_lk P s t x k ok
 |.entry x=>q_ent s x
 |.build t ps=>bdR P s.L t ps.toList
 |.call c=>q_call P s c
 |_=>none
noncomputable def evR(P:Program)(s:RS)(o:Op):Option RV:=Op.casesOn (motive:=fun _=>Program→RS→Option RV) o (fun a0=>fun _ s=>opv s.L a0) (fun a0=>fun _ s=>opv s.L a0) (fun a0 a1 a2=>fun _ s=>q_pick s.L a0 a1 a2) (fun _=>fun _ _=>none) (fun _ _=>fun _ _=>none) (fun a0 a1=>fun P s=>bdR P s.L a0 a1.toList) (fun _ _ _=>fun _ _=>none) (fun _ _ _ _=>fun _ _=>none) (fun a0 a1=>fun P s=>q_ld P s a0 a1) (fun _ _ _=>fun _ _=>none) (fun _=>fun _ _=>none) (fun _=>fun _ _=>none) (fun a0=>fun _ s=>q_nil s.L a0) (fun a0 a1 a2 a3 a4=>fun P s=>q_bin P s.L a0 a1 a2 a3) (fun a0 a1 a2=>fun P s=>q_un P s.L a0 a2) (fun a0 a1 a2=>fun P s=>q_conv P s.L a0 a1 a2) (fun _ _=>fun _ _=>none) (fun _ _=>fun _ _=>none) (fun a0 a1 a2=>fun _ s=>q_mf s.L a0 a1 a2) (fun _ _=>fun _ _=>none) (fun _ _=>fun _ _=>none) (fun _ _ _=>fun _ _=>none) (fun a0 a1 a2 a3 a4=>fun P s=>q_sl P s a0 a1 a2 a3 a4) (fun a0 a1 a2=>fun P s=>q_fa P s.L a0 a1 a2) (fun a0 a1 a2=>fun P s=>q_field P s.L a0 a1 a2) (fun a0 a1 a2=>fun P s=>q_ia P s a0 a1 a2) (fun a0 a1 a2=>fun P s=>q_ix P s a0 a1 a2) (fun a0 a1 a2 a3=>fun P s=>q_lk P s a0 a1 a2 a3) (fun _ _ _ _=>fun _ _=>none) (fun _ _ _=>fun _ _=>none) (fun _ _ _ _=>fun _ _=>none) (fun _ _=>fun _ _=>none) (fun _ _=>fun _ _=>none) (fun a0=>fun _ s=>q_ent s a0) (fun _ _ _ _=>fun _ _=>none) (fun a0 a1=>fun _ s=>q_ext s.L a0 a1) (fun a0=>fun P s=>q_call P s a0) (fun _=>fun _ _=>none) (fun _=>fun _ _=>none) (fun _=>fun _ _=>none) (fun _ _=>fun _ _=>none) (fun _ _ _=>fun _ _=>none) (fun _ _=>fun _ _=>none) P s
def q2j(P:Program)(s:RS)(o:Op):evR P s o=evR0 P s o:=by cases o<;>rfl
def Yl(X:Ctx)(s:RS)(o:Oper)(v:RV):Prop:=∀ M ρ a w,SAT X M ρ s.toS w→REG X M ρ s.toS a→v.bd s.nx∧∀ w1,Below w.heap.size w w1→(execOp a.eval o).run X.P w1=.ok (.value (v.cv ρ)) w1
def x8{v:Value}{w w':World}(h:q.run P w=.ok v w'):(do pure (Next.value (← q)):Sem Next).run P w=.ok (.value v) w':=by simp only[yye,h,yyb,yyf]
def evR_ok{o:Oper}(h:evR X.P s o.op=some v):Yl X s o v∧notDef o.op=true:=by
 obtain⟨dst,op,ty,pos,after,guard⟩:=o;simp only[q2j] at h ⊢;refine⟨fun M ρ a w h1 h2=>?_,by cases op<;>first|rfl|(simp[evR0] at h)⟩;cases op<;>simp only[evR0,reduceCtorEq] at h
 case move x=>have e:=k7 h2 h;exact⟨e.1,fun w1 _=>by simp only[execOp,e.2,yyf]⟩
 case assign x=>have e:=k7 h2 h;exact⟨e.1,fun w1 _=>by simp only[execOp,e.2,yyf]⟩
 case pick c x y=>
  unfold q_pick at h;split at h
  ·rename_i z hz;have ez:=(k7 h2 hz).2;cases z
   ·have e:=k7 h2 h;exact⟨e.1,fun w1 _=>by simp only[execOp,ez,RV.cv,asBool,yye,yyf,yyb,yyt,if_false,e.2]⟩
   ·have e:=k7 h2 h;exact⟨e.1,fun w1 _=>by simp only[execOp,ez,RV.cv,asBool,yye,yyf,yyb,if_true,e.2]⟩
  ·cases h
 case binOp op t x y yt=>
  unfold q_bin at h;split at h
  ·rename_i u hu;split at h
   ·rename_i z hz;obtain⟨e1,e2⟩:=bnR_ok (ρ:=ρ) h;refine⟨e1 _,fun w1 _=>?_⟩;simp only[execOp,(k7 h2 hu).2,(k7 h2 hz).2];exact x8 (e2 w1)
   ·cases h
  ·cases h
 case unOp op t x=>
  unfold q_un at h;split at h
  ·rename_i p hp;obtain⟨e1,e2⟩:=q0d h ρ;exact⟨e1 _,fun w1 _=>by simp only[execOp,q5l h2 hp];exact x8 (e2 w1)⟩
  ·cases h
 case convert src dst x=>
  unfold q_conv at h;split at h
  ·rename_i p hp;obtain⟨e1,e2⟩:=q0d h ρ;exact⟨e1 _,fun w1 _=>by simp only[execOp,q5l h2 hp];exact x8 (e2 w1)⟩
  ·cases h
 case extract x i=>
  unfold q_ext at h;split at h
  ·rename_i vs hv;cases hb:Nat.blt i vs.len
   ·rw[hb] at h;cases h
   ·rw[hb,cond_true,yya] at h;subst h;have e:=k7 h2 hv;refine⟨f6 e.1,fun w1 _=>?_⟩;simp only[execOp,e.2,RV.cv];refine x8 ?_;simp only[Instr.extract,yxr,q0l ρ (show i<vs.len by simpa using hb),yyf]
  ·cases h
 case nilCheck x=>
  unfold q_nil at h;split at h<;>simp only[yya,reduceCtorEq] at h<;>subst h<;>rename_i hx<;>have e:=k7 h2 hx <;>
   exact⟨e.1,fun w1 _=>by simp only[execOp,e.2,RV.cv,yyf]⟩
 case field t x i=>
  unfold q_field at h;split at h
  ·rename_i u hu;have e:=k7 h2 hu;obtain⟨e1,e2⟩:=fdR_ok (ρ:=ρ) h e.1;exact⟨e1,fun w1 _=>by simp only[execOp,e.2];exact x8 (e2 w1)⟩
  ·cases h
 case fieldAddr t x i=>
  unfold q_fa at h;split at h
  ·rename_i u hu;have e:=k7 h2 hu;obtain⟨e1,e2⟩:=faR_ok (ρ:=ρ) h e.1;exact⟨e1,fun w1 _=>by simp only[execOp,e.2];exact x8 (e2 w1)⟩
  ·cases h
 case indexAddr t x i=>
  unfold q_ia at h;split at h
  ·rename_i u hu;split at h
   ·rename_i z hz;have e:=j00 h1 h2 hu;obtain⟨e1,e2⟩:=iaR_ok h1 h e.1;exact⟨e1,fun w1 _=>by simp only[execOp,e.2,(k7 h2 hz).2];exact x8 (e2 w1)⟩
   ·cases h
  ·cases h
 case index t x i=>
  unfold q_ix at h;split at h
  ·rename_i c;split at h
   ·rename_i u hu;obtain⟨e1,e2⟩:=q0d h ρ;exact⟨e1 _,fun w1 _=>by simp only[execOp,q5l h2 hu,show a.eval (.const c)=c from rfl];exact x8 (e2 w1)⟩
   ·cases h
  ·split at h
   ·rename_i u hu;split at h
    ·rename_i z hz;have e:=k7 h2 hu;obtain⟨e1,e2⟩:=ixR_ok (ρ:=ρ) h e.1;exact⟨e1,fun w1 _=>by simp only[execOp,e.2,(k7 h2 hz).2];exact x8 (e2 w1)⟩
    ·cases h
   ·cases h
 case load t x=>
  unfold q_ld at h;split at h
  ·rename_i u hu;have e:=k7 h2 hu;obtain⟨e1,e2⟩:=ldR_ok h1 h;exact⟨e1,fun w1 hw=>by simp only[execOp,e.2];exact x8 (e2 w1 hw)⟩
  ·cases h
 case slice t x lo hi mx=>
  unfold q_sl at h;split at h
  ·rename_i u hu;split at h
   ·rename_i l hl;split at h
    ·rename_i hh hhh;split at h
     ·rename_i m hm;have e:=k7 h2 hu;obtain⟨e1,e2⟩:=slR_ok h1 h e.1;refine⟨e1,fun w1 _=>?_⟩;simp only[execOp,e.2,q6l h2 hl,q6l h2 hhh,q6l h2 hm];exact x8 (e2 w1)
     ·cases h
    ·cases h
   ·cases h
  ·cases h
 case makeFunc fn first cap=>
  unfold q_mf at h;split at h
  ·split at h
   ·rename_i x hx;split at h
    ·rename_i y hy;simp only[yya] at h;subst h;have ex:=q43 h2 hx;have ey:=q43 h2 hy;refine⟨⟨ex.1,ey.1⟩,fun w1 _=>?_⟩;simp only[execOp];refine x8 ?_;simp only[Instr.makeFunc,yyf,RV.cv,← ex.2,← ey.2,← yxk]
    ·cases h
   ·cases h
  ·cases h
 case lookup t x k ok=>
  unfold q_lk at h;split at h
  ·rename_i u hu;split at h
   ·rename_i z hz;have e:=k7 h2 hu;obtain⟨e1,e2⟩:=lkR_ok h1 h;exact⟨e1,fun w1 hw=>by simp only[execOp,e.2,(k7 h2 hz).2];exact x8 (e2 w1 hw)⟩
   ·cases h
  ·cases h
 case entry x=>
  unfold q_ent at h;split at h
  ·rename_i l hx;split at h
   ·rename_i m since seen last bk hl;split at h
    ·rename_i es clk hm;cases hc:Nat.beq clk last
     ·rw[hc] at h;cases h
     ·rw[hc,cond_true] at h;have hc:=yyi hc;subst hc;split at h
      ·rename_i e he;simp only[yya] at h;subst h;obtain⟨_,hbd,hok⟩:=q0n h1 hm;obtain⟨_,_,hok2⟩:=q0n h1 hl;simp only[RO.toHO,HO.ok,HO.bd] at hok hbd hok2;obtain⟨_,ms,hheap,hms⟩:=hok;obtain⟨_,sn,hheap2,_,hbk⟩:=hok2;have hbk:=hbk bk rfl;have hmem:=List.mem_of_find?_eq_some he;refine⟨⟨(hbd e hmem).1,(hbd e hmem).2,trivial⟩,fun w1 hw=>?_⟩;have g1:w1.heap[ρ.blk m]?=some (.map ms clk):=by rw[hw.block _ (yym.1 hheap).1];exact hheap
       have g2:w1.heap[ρ.blk l]?=some (.mapIter (some (ρ.blk m)) since sn clk):=by rw[hw.block _ (yym.1 hheap2).1];exact hheap2
       have g3:ms.find? (fun e=>e.born==bk)=some (toME ρ e):=by
        rw[← Array.find?_toList,hms,List.find?_map];have:((fun e:MapEntry=>e.born==bk)∘fun x:RV×RV×Nat=>(⟨x.1.cv ρ,x.2.1.cv ρ,x.2.2⟩:MapEntry))=fun e=>Nat.beq e.2.2 bk:=by
         funext x;simp only[Function.comp];cases h:Nat.beq x.2.2 bk
         ·have:x.2.2≠bk:=fun e=>by rw[e] at h;simp at h
          simpa using this
         ·simpa using yyi h
        rw[this,he];rfl
       simp only[execOp,(k7 h2 hx).2,RV.cv];refine x8 ?_;unfold Instr.entry;simp only[yye,getObj,Sem.run,g2,hbk,g1,yyb,bne_self_eq_false,yyt,if_false,g3,yyf];rfl
      ·cases h
    ·cases h
   ·cases h
  ·cases h
 case build t ps=>obtain⟨e1,e2⟩:=bdR_ok h2 h;exact⟨e1,fun w1 _=>by simp only[execOp];exact x8 (e2 w1)⟩
 case call c=>
  obtain⟨callee,args,argTypes⟩:=c;unfold q_call at h;simp only at h;split at h
  ·rename_i b;have hargs:(args.map a.eval)=(args.toList.map a.eval).toArray:=by rw[← yxk]
   split at h
   ·unfold q_len at h;split at h
    ·rename_i x hx;split at h
     ·rename_i t ht;split at h
      ·rename_i u hu;have e:=k7 h2 hu;obtain⟨e1,e2⟩:=lnR_ok h1 h;refine⟨e1 _,fun w1 hw=>?_⟩;have ht':argTypes=#[t]:=by rw[← Array.toArray_toList (xs:=argTypes),ht]
       simp only[execOp,resolve,hargs,hx,yy4,List.map_nil,e.2,ht',yye,yyf,yyb,invoke,builtin];simp only[e2 w1 hw,yyb]
      ·cases h
     ·cases h
    ·cases h
   ·unfold q_cap at h;split at h
    ·rename_i x hx;split at h
     ·rename_i t ht;split at h
      ·rename_i u hu;have e:=k7 h2 hu;obtain⟨e1,e2⟩:=cpR_ok (ρ:=ρ) h;refine⟨e1 _,fun w1 hw=>?_⟩;have ht':argTypes=#[t]:=by rw[← Array.toArray_toList (xs:=argTypes),ht]
       simp only[execOp,resolve,hargs,hx,yy4,List.map_nil,e.2,ht',yye,yyf,yyb,invoke,builtin];simp only[e2 w1,yyb]
      ·cases h
     ·cases h
    ·cases h
   ·unfold q_min at h;split at h
    ·rename_i l hl;obtain⟨e1,e2⟩:=q0d h ρ;refine⟨e1 _,fun w1 hw=>?_⟩;simp only[execOp,resolve,hargs,z43 h2 hl,yye,yyf,yyb,invoke,builtin];have:=e2 w1;simp only[Builtin.min_] at this ⊢;simp only[this,yyb]
    ·cases h
   ·unfold q_max at h;split at h
    ·rename_i l hl;obtain⟨e1,e2⟩:=q0d h ρ;refine⟨e1 _,fun w1 hw=>?_⟩;simp only[execOp,resolve,hargs,z43 h2 hl,yye,yyf,yyb,invoke,builtin];have:=e2 w1;simp only[Builtin.max_] at this ⊢;simp only[this,yyb]
    ·cases h
   ·cases h
  ·cases h
variable {s':RS}{w':World}
def SAT.sub{s1 s2:S}(h:SAT X M ρ s1 w)(hH:∀ l o,lk s2.H l=some o→lk s1.H l=some o)(hb:s1.nx≤s2.nx):SAT X M ρ s2 w:=⟨h.below,h.msub,h.mnew,h.mem,fun l o hl=>let e:=h.own l o (hH l o hl);⟨yxd e.1 hb,q60 hb e.2.1,e.2.2⟩,fun l l' o o' b e1 e2=>h.apart l l' o o' b (hH l o e1) (hH l' o' e2),fun l o b e=>h.notM l o b (hH l o e)⟩
def SAT.updO(h:SAT X M ρ s.toS w){o o':RO}(hl:hq s.H l=some o)(hg:w.grownBy w' (o.toHO.at ρ l))(hat:o'.toHO.at ρ l=o.toHO.at ρ l)(hbd:o'.toHO.bd s.nx)(hok:o'.toHO.ok X M ρ l w')(hn:isNo o'=false:=by rfl) :
  SAT X M ρ (⟨s.L,updR s.H l o',s.nx⟩:RS).toS w':=by
 have h':lk s.toS.H l=some o.toHO:=lkH hl;refine(h.upd h' hg hat hbd hok).sub (fun m q hm=>?_) (yyn _);show lk (updH (mapH s.H) l o'.toHO) m=some q;rw[q6m _ _ _ _ (by rw[lkH hl];rfl)];rcases z2v hn hm with⟨e1,e2⟩|⟨e1,e2⟩
 ·rw[if_pos e1,e2]
 ·have:=z85 hl;rw[if_neg (by rcases e2 with e2|e2<;>omega)];exact e1
structure CellsAt(n:Nat)(c:Nat→RV)(ρ:Env)(cs:Array Value):Prop where
 size:n≤cs.size
 at_:∀ i,i<n→cs[i]?=some ((c i).cv ρ)∧((c i).cv ρ).oneCell'=true
def capOk(k:Option Nat)(b n:Nat)(cs:Array Value)(sv:Value):Prop:=
 match k with|none=>cs.size=n|some e=>∃ m cap,sv=.slice (some ⟨b,0,none⟩) m cap∧n=m*e∧cs.size=cap*e∧m≤cap∧cap≤maxLen
variable{b:Nat}
def SAT.newO(h1:SAT X M ρ s.toS w){row:Option Nat}{o:RO}(hg:w.grownBy w' row)(hrow:∀ b,row=some b→X.E.heap.size≤b∧M b=none){H':Hg}
  (hsub':∀ l o,lk (mapH H') l=some o→lk (mapH s.H) l=some o∧∀ b,o.at ρ l=some b→row≠some b) (hb:row=some b∨w.heap.size≤b) (hbd:o.toHO.bd (s.nx+1))
  (hat:o.toHO.at (ρ.with s.nx b .nil sv) s.nx=some b) (hok:o.toHO.ok X M (ρ.with s.nx b .nil sv) s.nx w') (hn:isNo o=false:=by rfl) :
  SAT X M (ρ.with s.nx b .nil sv) (⟨s.L,updR H' s.nx (o),s.nx+1⟩:RS).toS w':=by
 suffices hS:SAT X M (ρ.with s.nx b .nil sv) (⟨mapR s.L,(s.nx,o.toHO)::mapH H',s.nx+1⟩:S) w' by
  refine hS.sub (fun m q hm=>?_) (yyn _);show lk ((s.nx,o.toHO)::mapH H') m=some q;rcases z2v hn hm with⟨e1,e2⟩|⟨e1,_⟩
  ·subst e1;rw[e2];simp[lk]
  ·have:=(h1.own m q (hsub' m q e1).1).1;have hne:s.nx≠m:=fun e=>by have:m<s.nx:=this;omega
   simp only[lk,if_neg hne];exact e1
 refine h1.add (H':=mapH H') hg hrow hsub' (k9 ρ s.nx b .nil sv) hbd hok fun b' hb'=>?_;change HO.at (ρ.with s.nx b .nil sv) s.nx o.toHO=some b' at hb';rw[hat] at hb';injection hb' with hb';subst hb'
 rcases hb with hb|hb
 ·exact⟨(hrow b hb).2,fun l o1 hl e=>(hsub' l o1 hl).2 b e hb⟩
 ·refine⟨?_,fun l o1 hl e=>?_⟩
  ·cases hM:M b with
   |none=>rfl
   |some q=>have:=(yym.1 (h1.mem b q hM)).1;omega
  ·have:=(g9 (h1.own l o1 (hsub' l o1 hl).1).2.2 e).2;omega
variable{ρ':Env}{k:Option Nat}
def j4d{t:Tr}(hb:ρ'.blk l=b)(hE:X.E.heap.size≤b)(hh:w.heap[b]?=some (.cells cs ty (0,0)))(hc:CellsAt n t.get ρ' cs)(hk:capOk k b n cs (ρ'.sv l)) :
  (RO.blk ty k n d t).toHO.ok X M ρ' l w:=by
 subst hb;simp only[RO.toHO,HO.ok];exact⟨hE,cs,hh,hc.size,hc.at_,hk⟩
def CellsAt.env{c:Nat→RV}(h:CellsAt n c ρ cs)(hr:ρ.upTo ρ' m)(hb:∀ i,i<n→(c i).bd m):CellsAt n c ρ' cs:=⟨h.size,fun i hi=>by rw[s7 hr (hb i hi)];exact h.at_ i hi⟩
def z54{r:RV}(ho:r.ones=true)(h:r.len≤2 ^ d):CellsAt r.len (Tr.ofL d r).get ρ (r.cl ρ).toArray:=by refine⟨by simp[j8],fun i hi=>?_⟩;rw[q6y h hi];exact⟨by rw[yxr];exact q0l ρ hi,q3l (q2e ho hi) ρ⟩
def dep(n:Nat):Nat:=bif Nat.ble n 1 then 0 else Nat.log2 (n-1)+1
def q3h(n:Nat):n≤2 ^ dep n:=by
 unfold dep;cases h:Nat.ble n 1
 ·have:n-1<2 ^ (Nat.log2 (n-1)+1):=Nat.lt_log2_self;rw[cond_false];omega
 ·have:=yyc h;simpa using this
def DidR(X:Ctx)(M:Mem)(ρ:Env)(s:RS)(v:RV)(s':RS)(res:Result Next):Prop:=∃ ρ' w' n,res=.ok n w'∧ρ.upTo ρ' s.nx∧s.nx≤s'.nx∧s'.L=s.L∧SAT X M ρ' s'.toS w'∧v.bd s'.nx∧(n=.value (v.cv ρ')∨(n=.skip∧v=.u))
def Dd(X:Ctx)(s:RS)(o:Oper)(v:RV)(s':RS):Prop:=∀ M ρ a w,SAT X M ρ s.toS w→REG X M ρ s.toS a→DidR X M ρ s v s' ((execOp a.eval o).run X.P w)
variable{r:Result Next}
def j3r(h1:SAT X M ρ s.toS w)(hb:c.bd s.nx)(ho:c.ones=true)(hcs:cs=(c.cl ρ).toArray)(hk:capOk k w.heap.size c.len cs sv)
  (hr:r=.ok (.value (v.cv (ρ.with s.nx w.heap.size .nil sv))) (w.alloc (.cells cs ty))) (hv:v.bd (s.nx+1)) :
  DidR X M ρ s v ⟨s.L,updR s.H s.nx (.blk ty k c.len (dep c.len) (Tr.ofL (dep c.len) c)),s.nx+1⟩ r:=by
 subst hcs;have hup:=k9 ρ s.nx w.heap.size .nil sv;refine⟨_,_,_,hr,hup,yxp _,rfl,?_,hv,.inl rfl⟩;have hget:∀ i,i<c.len→((Tr.ofL (dep c.len) c).get i).bd s.nx:=fun i hi=>by rw[q6y (q3h _) hi];exact f6 hb
 refine h1.newO (w':=w.alloc (.cells (c.cl ρ).toArray ty)) (row:=none) (b:=w.heap.size) (World.grownBy_alloc w _ none) (fun b hb=>by cases hb) (fun l o hl=>⟨hl,fun _ _=>by simp⟩) (.inr (yyn _))
  (fun i hi=>q0c (yxp _) (hget i hi)) (by simp[RO.toHO,HO.at,Env.with]) (j4d (b:=w.heap.size) (by simp[Env.with]) h1.below.size (heap_alloc_new w _) ?_ ?_)
 ·exact(z54 ho (q3h _)).env hup hget
 ·have:(ρ.with s.nx w.heap.size .nil sv).sv s.nx=sv:=by simp[Env.with]
  rw[this];exact hk
variable{tr:Tr}
def j01(h:CellsAt n tr.get ρ cs)(ho:c.ones=true)(hle:off+c.len≤n)(hd:n≤2 ^ d) :
  CellsAt n (Tr.put d c tr off).get ρ (splice cs.toList off (c.cl ρ)).toArray:=by
 have hlen:=j8 ρ c;have hs:=h.size;refine⟨by simp[splice,hlen];omega,fun i hi=>?_⟩;rw[n7 (by omega) (by omega),yxr];simp only[splice];have hl1:(cs.toList.take off).length=off:=by simp;omega
 by_cases h1:i<off
 ·rw[if_neg (by omega),List.getElem?_append_left (by simp[hlen];omega),List.getElem?_append_left (by omega),yxo,if_pos h1,yxs];exact h.at_ i hi
 ·by_cases h2:i<off+c.len
  ·rw[if_pos ⟨by omega,h2⟩,List.getElem?_append_left (by simp[hlen];omega),List.getElem?_append_right (by omega),hl1];exact⟨q0l ρ (by omega),q3l (q2e ho (by omega)) ρ⟩
  ·rw[if_neg (by omega),List.getElem?_append_right (by simp[hlen];omega)];simp only[yyw,hl1,hlen,List.getElem?_drop,yxs];rw[show off+c.len+(i-(off+c.len))=i by omega];exact h.at_ i hi
def put_bd(h:∀ i,i<n→(tr.get i).bd m)(hc:c.bd m)(hle:off+c.len≤n)(hd:n≤2 ^ d):∀ i,i<n→((Tr.put d c tr off).get i).bd m:=fun i hi=>by
 rw[n7 (by omega) (by omega)];split
 ·exact f6 hc
 ·exact h i hi
def z17(h1:SAT X M ρ s.toS w)(hl:hq s.H l=some (.blk ty k n d tr))(hb:c.bd s.nx)(ho:c.ones=true)(hle:off+c.len≤n)(hd:n≤2 ^ d) :
  ∃ w',(storeCells ⟨ρ.blk l,off,none⟩ (c.cl ρ)).run X.P w=.ok () w'∧SAT X M ρ (⟨s.L,updR s.H l (.blk ty k n d (Tr.put d c tr off)),s.nx⟩:RS).toS w':=by
 obtain⟨_,hbd,hok⟩:=q0n h1 hl;simp only[RO.toHO,HO.ok,HO.bd] at hok hbd;obtain⟨hE,cs,hheap,hsz,hat,hk⟩:=hok;have hrun:=run_storeCells_at X.P (ρ.blk l) off ty (c.cl ρ) 0 cs w hheap (by rw[j8];omega) (q6z ho ρ);refine⟨_,hrun,h1.updO hl (e8 _ _ _) rfl (put_bd hbd hb hle hd) (j4d rfl hE (setRow_heap w _ cs _ ty (0,0) hheap) ?_ ?_)⟩
 ·have:=j01 (d:=d) ⟨hsz,hat⟩ ho hle hd;simpa[splice] using this
 ·have hsz':(cs.toList.take (off+0)++c.cl ρ++cs.toList.drop (off+0+(c.cl ρ).length)).toArray.size=cs.size:=by simp[j8];omega
  unfold capOk;rw[hsz'];exact hk
noncomputable def m_store(P:Program)(s:RS)(t:TypeId)(x y:Operand):Option (RV×RS):=
 match opv s.L x with
 |some (.p l off)=>(match hq s.H l with
  |some (.blk ty k n d tr)=>(match opv s.L y with
   |some v=>(match v.cel with
    |some c=>(match evS P (Go.sizeOf t) with
     |some sz=>bif Nat.beq c.len sz&&Nat.ble (off+sz) n&&Nat.ble n (2 ^ d) then some (.u,⟨s.L,updR s.H l (.blk ty k n d (Tr.put d c tr off)),s.nx⟩) else none
     |none=>none)
    |none=>none)
   |none=>none)
  |_=>none)
 |_=>none
def z80(h:m_store X.P s t x y=some (v,s'))(h1:SAT X M ρ s.toS w)(h2:REG X M ρ s.toS a) :
  DidR X M ρ s v s' ((do Instr.storeAt t (a.eval x) (a.eval y);pure .skip:Sem Next).run X.P w):=by
 unfold m_store at h;split at h
 ·rename_i l off hx;split at h
  ·rename_i ty k n d tr hl;split at h
   ·rename_i u hu;split at h
    ·rename_i c hc;split at h
     ·rename_i sz hsz;cases hg:Nat.beq c.len sz&&Nat.ble (off+sz) n&&Nat.ble n (2 ^ d)
      ·rw[hg] at h;cases h
      ·rw[hg,cond_true,yya,yyp] at h;obtain⟨rfl,rfl⟩:=h;simp only[yyd] at hg;have g1:=yyi hg.1.1;have g2:=yyc hg.1.2;have g3:=yyc hg.2;subst g1;have eu:=k7 h2 hu;obtain⟨c1,c2,c3⟩:=q55 hc ρ eu.1;obtain⟨w',e1,e2⟩:=z17 h1 hl c3 c2 g2 g3;refine⟨ρ,w',.skip,?_,Env.upTo.refl _ _,yyn _,rfl,e2,trivial,.inr ⟨rfl,rfl⟩⟩;have hst:(storeVar t ⟨ρ.blk l,off,none⟩ (u.cv ρ)).run X.P w=.ok () w':=by unfold storeVar;simp only[yye,w4 hsz,yyb,c1];rw[if_neg (by simp[j8])];exact e1
       simp only[Instr.storeAt,(k7 h2 hx).2,eu.2,RV.cv,Instr.sureAddr,yye,yyf,yyb,hst]
     ·cases h
    ·cases h
   ·cases h
  ·cases h
 ·cases h
def nblk(s:RS)(ty:TypeId)(k:Option Nat)(c:RV):RS:=⟨s.L,updR s.H s.nx (.blk ty k c.len (dep c.len) (Tr.ofL (dep c.len) c)),s.nx+1⟩
noncomputable def m_alloc(P:Program)(s:RS)(t:TypeId):Option (RV×RS):=
 match zR P t with
 |some c=>some (.p s.nx 0,nblk s t none c)
 |none=>none
def q0x:(newRow t cs).run P w=.ok ⟨w.heap.size,0,none⟩ (w.alloc (.cells cs t)):=by simp only[newRow,newObj,yye,Sem.run,yyf,yyb];rfl
def j3p{z:Array Value}(h1:SAT X M ρ s.toS w)(hb:c.bd s.nx)(ho:c.ones=true)(hz:z=(c.cl ρ).toArray)
  (hr:r=.ok (.value (.pointer (some ⟨w.heap.size,0,none⟩))) (w.alloc (.cells z t))):DidR X M ρ s (.p s.nx 0) (nblk s t none c) r:=by
 refine j3r (sv:=Go.undef) h1 hb ho hz (by simp[capOk,hz,j8]) ?_ (yxf _);rw[hr];simp only[RV.cv,Env.with,if_true]
def z81{old:Value}(h:m_alloc X.P s t=some (v,s'))(h1:SAT X M ρ s.toS w):DidR X M ρ s v s' ((do pure (Next.value (← Instr.alloc t true old)):Sem Next).run X.P w):=by
 unfold m_alloc at h;split at h
 ·rename_i c hc;simp only[yya,yyp] at h;obtain⟨rfl,rfl⟩:=h;obtain⟨c1,c2,z,c3,c4,_⟩:=z0v hc ρ s.nx;refine j3p h1 c1 c2 c4 ?_;simp only[Instr.alloc,newVar,yye,c3,yyb,q0x,yyf]
 ·cases h
noncomputable def m_box(s:RS)(t:TypeId)(x:Operand):Option (RV×RS):=
 match opv s.L x with
 |some v=>(match v.cel with
  |some c=>some (.p s.nx 0,nblk s t none c)
  |none=>none)
 |none=>none
def m_box_ok(h:m_box s t x=some (v,s'))(h1:SAT X M ρ s.toS w)(h2:REG X M ρ s.toS a):DidR X M ρ s v s' ((do pure (Next.value (← Instr.box t (a.eval x))):Sem Next).run X.P w):=by
 unfold m_box at h;split at h
 ·rename_i u hu;split at h
  ·rename_i c hc;simp only[yya,yyp] at h;obtain⟨rfl,rfl⟩:=h;have eu:=k7 h2 hu;obtain⟨c1,c2,c3⟩:=q55 hc ρ eu.1;refine j3p h1 c3 c2 c1 ?_;simp only[Instr.box,newVar,eu.2,yye,yyb,q0x,yyf]
  ·cases h
 ·cases h
def RV.rep(z:RV):Nat→RV
 |0=>.nil
 |n+1=>z.app (z.rep n)
def q3j(ρ:Env)(z:RV):∀ n,(z.rep n).cl ρ=(List.replicate n (z.cl ρ)).flatten
 |0=>rfl
 |n+1=>by rw[RV.rep,q1w,q3j ρ z n,List.replicate_succ,List.flatten_cons]
def q3k{z:RV}{k:Nat}(h:z.bd k):∀ n,(z.rep n).bd k
 |0=>trivial
 |n+1=>q04 (q3k h n) h
def q5c{q:RV}(hq:q.ones=true):∀ {r:RV},r.ones=true→(r.app q).ones=true
 |.cons a r,h=>by simp only[RV.ones,yyd] at h;simp only[RV.app,RV.ones,yyd];exact⟨h.1,q5c hq h.2⟩
 |.i ..,_|.b _,_|.np,_|.ns,_|.fz,_|.nm,_|.u,_|.nil,_|.p ..,_|.s ..,_|.m _,_|.it _,_|.y _,_|.o ..,_|.f ..,_|.g _,_|.t _,_=>hq
def q2d{z:RV}(h:z.ones=true):∀ n,(z.rep n).ones=true
 |0=>rfl
 |n+1=>q5c (q2d h n) h
def z9t(ρ:Env)(n size:Nat)(z:RV){zc:Array Value}(hz:zc=(z.cl ρ).toArray)(hl:z.len=size):(Array.range (n*size)).map (fun x=>zc[x % zc.size]!)=((z.rep n).cl ρ).toArray:=by subst hz hl;apply Array.ext';rw[q3j];have:=q0v n (z.cl ρ);rw[j8] at this;exact this
def z16{e m cap:Nat}(h1:SAT X M ρ s.toS w)(hb:c.bd s.nx)(ho:c.ones=true)(hcs:cs=(c.cl ρ).toArray)(hlen:c.len=cap*e)(hm:m≤cap)(hcap:cap≤maxLen)
  (hr:r=.ok (.value (.slice (some ⟨w.heap.size,0,none⟩) m cap)) (w.alloc (.cells cs ty))):DidR X M ρ s (.o s.nx e 0 m false 0) (nblk s ty (some e) c) r:=by
 refine j3r (k:=some e) (sv:=.slice (some ⟨w.heap.size,0,none⟩) cap cap) h1 hb ho hcs ⟨cap,cap,rfl,hlen,by rw[hcs];simp[j8,hlen],yyn _,hcap⟩ ?_ (yxf _);rw[hr];simp[RV.cv,Env.with,Value.capN]
noncomputable def m_bsl0(P:Program)(s:RS)(t:TypeId):Option (RV×RS):=
 match evS P (underlying t) with
 |some (.slice elem)=>(match evS P (Go.sizeOf elem) with
  |some size=>some (.o s.nx size 0 0 false 0,nblk s elem (some size) .nil)
  |none=>none)
 |_=>none
def j11(h:m_bsl0 X.P s t=some (v,s'))(h1:SAT X M ρ s.toS w):DidR X M ρ s v s' ((do pure (Next.value (← Instr.buildSlice t 0 #[])):Sem Next).run X.P w):=by
 unfold m_bsl0 at h;split at h
 ·rename_i elem hU;split at h
  ·rename_i size hsz;simp only[yya,yyp] at h;obtain⟨rfl,rfl⟩:=h;refine z16 (cap:=0) h1 trivial rfl rfl (by simp[RV.len]) (yyn _) (yy7 _) ?_;unfold Instr.buildSlice;simp only[yye,w4 hU,w4 hsz,yyb,yyf];simp[Instr.fill,q0x,RV.cl,Array.range_zero',Array.map_empty]
  ·cases h
 ·cases h
noncomputable def m_bsl(P:Program)(s:RS)(t:TypeId)(n:Nat)(ps:List (Nat×Operand)):Option (RV×RS):=
 match evS P (underlying t) with
 |some (.slice elem)=>(match evS P (Go.sizeOf elem) with
  |some size=>(match zR P elem with
   |some z=>(match fillR (fun i=>some (i*size,size)) s.L (z.rep n) ps with
    |some c=>bif c.ones&&Nat.beq z.len size&&Nat.beq c.len (n*size)&&Nat.blt 0 (n*size)&&Nat.ble (n*size) 16777216 then some (.o s.nx size 0 n false 0,nblk s elem (some size) c) else none
    |none=>none)
   |none=>none)
  |none=>none)
 |_=>none
def m_bsl_ok{ps:Array (Nat×Operand)}(h:m_bsl X.P s t n ps.toList=some (v,s'))(h1:SAT X M ρ s.toS w)(h2:REG X M ρ s.toS a) :
  DidR X M ρ s v s' ((do pure (Next.value (← Instr.buildSlice t n (ps.map fun(i,x)=>(i,a.eval x)))):Sem Next).run X.P w):=by
 have hps:(ps.map fun(x:Nat×Operand)=>(x.1,a.eval x.2)).toList=ps.toList.map fun p=>(p.1,a.eval p.2):=by rw[yxk]
 unfold m_bsl at h;split at h
 ·rename_i elem hU;split at h
  ·rename_i size hsz;split at h
   ·rename_i z hz;split at h
    ·rename_i c hc;cases hg:c.ones&&Nat.beq z.len size&&Nat.beq c.len (n*size)&&Nat.blt 0 (n*size)&&Nat.ble (n*size) 16777216
     ·rw[hg] at h;cases h
     ·rw[hg,cond_true,yya,yyp] at h;obtain⟨rfl,rfl⟩:=h;simp only[yyd] at hg;obtain⟨⟨⟨⟨g1,g2⟩,g3⟩,g4⟩,g5⟩:=hg;have g2:=yyi g2;have g3:=yyi g3;have g4:0<n*size:=by simpa using g4
      have g5:=yyc g5;obtain⟨z1,z2,zv,z3,z4,_⟩:=z0v hz ρ s.nx;obtain⟨e1,e2⟩:=q7u h2 hc (q3k z1 n);have hs:1≤size:=by
       rcases Nat.eq_zero_or_pos size with h|h
       ·rw[h] at g4;simp at g4
       ·exact h
      have hn:n≤maxLen:=by have:n*1≤n*size:=Nat.mul_le_mul_left _ hs;simp only[maxLen];omega
      refine z16 h1 e1 g1 rfl g3 (yyn _) hn ?_;unfold Instr.buildSlice;simp only[yye,w4 hU,w4 hsz,yyb,yyf];rw[if_neg (show ¬ n*size>2 ^ 24 by omega)];rw[if_neg (show ¬ n*size=0 by omega)];simp only[yye,z3,yyb,yyf,hps];have hzr:=z9t ρ n size z z4 g2;rw[hzr,e2];simp only[yye,q0x,yyb,yyf]
    ·cases h
   ·cases h
  ·cases h
 ·cases h
def slN:RV→Option Nat
 |.ns=>some 0
 |.s _ _ n _=>some n
 |.o _ _ lo hi _ _=>some (hi-lo)
 |_=>none
def z20{x:RV}(h:slN x=some n)(ρ:Env):∃ ad c,x.cv ρ=.slice ad n c:=by cases x<;>simp only[slN,yya,reduceCtorEq] at h<;>subst h<;>exact⟨_,_,rfl⟩
def srcR(H:Hg)(size:Nat)(x:RV):Option (Nat×RV):=
 match slB x with
 |some (l,off,n)=>(match hq H l with
  |some (.blk _ _ nn _ tr)=>bif Nat.ble (off+n*size) nn&&okO H x&&Nat.blt 0 n then some (n,tr.cut (n*size) off) else none
  |_=>none)
 |none=>none
def one_of{r:RV}(h:(r.cv ρ).oneCell'=true):r.one=true:=by cases r<;>first|rfl|(exact absurd h (by decide))|(simp[RV.cv,Go.undef,Value.oneCell'] at h)
def z2a{n:Nat}{c:Nat→RV}{cs:Array Value}(hc:CellsAt n c ρ cs){tr:Tr}(he:c=tr.get):∀ {k off:Nat},off+k≤n→(tr.cut k off).ones=true
 |0,_,_=>rfl
 |k+1,off,h=>by rw[z2m];simp only[RV.ones,yyd];exact⟨one_of (by have:=(hc.at_ off (by omega)).2;rw[he] at this;exact this),z2a hc he (by omega)⟩
def j0f(h1:SAT X M ρ s.toS w){size:Nat}{x c:RV}(h:srcR s.H size x=some (n,c)) :
  0<n∧c.len=n*size∧c.ones=true∧c.bd s.nx∧∃ adr cap,x.cv ρ=.slice (some adr) n cap∧∀ j u,(c.cl ρ)[j]?=some u→w.cell? (adr.add j)=some u:=by
 unfold srcR at h;split at h
 ·rename_i l off m hsl;split at h
  ·rename_i ty k nn d tr hl;cases hg:Nat.ble (off+m*size) nn&&okO s.H x&&Nat.blt 0 m
   ·rw[hg] at h;cases h
   ·rw[hg,cond_true,yya,yyp] at h;obtain⟨rfl,rfl⟩:=h;simp only[yyd,Nat.blt_eq] at hg;have g1:=yyc hg.1.1;obtain⟨e1,cap,e2⟩:=z6e h1 hsl hg.1.2;obtain⟨_,hbd,hok⟩:=q0n h1 hl;simp only[RO.toHO,HO.ok,HO.bd] at hok hbd;obtain⟨_,cs,hheap,hsz,hc,_⟩:=hok;refine⟨hg.2,q0b _ _ _,z2a ⟨hsz,hc⟩ rfl g1,q52 fun j _ hj=>hbd j (by omega),_,cap,e2,fun j u hu=>?_⟩;rw[z7,u4 hheap];rw[j3v hc rfl g1,yxo] at hu;split at hu
    ·simpa[List.getElem?_drop] using hu
    ·cases hu
  ·cases h
 ·cases h
noncomputable def m_mks(P:Program)(s:RS)(t:TypeId)(l c:Operand):Option (RV×RS):=
 match evS P (underlying t) with
 |some (.slice elem)=>(match evS P (typeInfo elem) with
  |some i=>(match zR P elem with
   |some z=>(match opc s.L l with
    |some (.int _ n)=>(match opc s.L c with
     |some (.int _ m)=>bif decide (0≤n)&&decide (n≤m)&&decide (m≤100000000)&&Nat.ble i.bytes 65536&&Nat.beq z.len i.size then
       some (.o s.nx i.size 0 n.toNat false 0,nblk s elem (some i.size) (z.rep m.toNat)) else none
     |_=>none)
    |_=>none)
   |none=>none)
  |none=>none)
 |_=>none
def q34(z:RV)(ρ:Env):∀ n,(z.rep n).len=n*z.len:=fun n=>by rw[← j8 ρ,q3j];simp[j8]
def m_mks_ok{l c:Operand}(h:m_mks X.P s t l c=some (v,s'))(h1:SAT X M ρ s.toS w)(h2:REG X M ρ s.toS a) :
  DidR X M ρ s v s' ((do pure (Next.value (← Instr.makeSlice t (a.eval l) (a.eval c))):Sem Next).run X.P w):=by
 unfold m_mks at h;split at h
 ·rename_i elem hU;split at h
  ·rename_i i hi;split at h
   ·rename_i z hz;split at h
    ·rename_i k1 n hn;split at h
     ·rename_i k2 m hm;cases hg:decide (0≤n)&&decide (n≤m)&&decide (m≤100000000)&&Nat.ble i.bytes 65536&&Nat.beq z.len i.size
      ·rw[hg] at h;cases h
      ·rw[hg,cond_true,yya,yyp] at h;obtain⟨rfl,rfl⟩:=h;simp only[yyd,yyu] at hg;obtain⟨⟨⟨⟨g1,g2⟩,g3⟩,g4⟩,g5⟩:=hg;have g4:=yyc g4;have g5:=yyi g5;obtain⟨z1,z2,zv,z3,z4,_⟩:=z0v hz ρ s.nx;have hw1:IntKind.i64.wrap n=n:=IntWalk.i64_in n ⟨by omega,by omega⟩;have hw2:IntKind.i64.wrap m=m:=IntWalk.i64_in m ⟨by omega,by omega⟩;have hmul:(i.bytes:Int)*m≤65536*100000000:=Int.mul_le_mul (by omega) g3 (by omega) (by omega);refine z16 h1 (q3k z1 _) (q2d z2 _) rfl (cap:=m.toNat) (by rw[q34 z ρ,g5]) (by omega) (by simp only[maxLen];omega) ?_;unfold Instr.makeSlice;simp only[yye,w4 hU,yyb,q5l h2 hn,q5l h2 hm,asInt,asIntOf,yyf,w4 hi,hw1,hw2];rw[if_neg (by simp;omega)];simp only[yyf,yye,run_askRoom,yyb,Go.sizeOf,w4 hi,Sem.run_ite,Result.andThen_ite];split
       ·rename_i h0;have hnil:(z.rep m.toNat).cl ρ=[]:=yxn (by rw[j8,q34 z ρ,g5];exact h0);simp only[h0,Array.range_zero',Array.map_empty,q0x,yyb,hnil]
       ·simp only[z3,yyb];rw[z9t ρ m.toNat i.size z z4 g5];simp only[q0x,yyb]
     ·cases h
    ·cases h
   ·cases h
  ·cases h
 ·cases h
end
end Ox
