/- Texts of the proof of the statement that the last text proves. -/
import Derived.Test.YtcijjbccigbflaaGreatDoorPrh
import Derived.Test.YtcijjbccigbflaaGreatDoorPrr0
import Derived.Test.YtcijjbccigbflaaGreatDoorPrr1
import Derived.Test.YtcijjbccigbflaaGreatDoorPrr2
import Derived.Test.YtcijjbccigbflaaGreatDoorPrr3
import Derived.Test.YtcijjbccigbflaaGreatDoorPrr4
import Derived.Test.YtcijjbccigbflaaGreatDoorPrr5
import Derived.Test.YtcijjbccigbflaaGreatDoorPrr6
import Derived.Test.YtcijjbccigbflaaGreatDoorPrr7
import Derived.Test.YtcijjbccigbflaaGreatDoorPrr8
import Derived.Test.YtcijjbccigbflaaGreatDoorPrr9
import Derived.Test.YtcijjbccigbflaaGreatDoorPrr10
import Derived.Test.YtcijjbccigbflaaGreatDoorPrr11
import Derived.Test.YtcijjbccigbflaaGreatDoorPrr12
import Derived.Test.YtcijjbccigbflaaGreatDoorPrr13
import Derived.Test.YtcijjbccigbflaaGreatDoorRows
import Derived.Test.YtcijjbccigbflaaGreatDoorTie
import Derived.Test.YtcijjbccigbflaaGreatDoorCards
import Derived.ProofKit
import Derived.LaidMore
import Derived.Lay
import Derived.SevenTiedAt
import Derived.Stop.Joined
import Derived.ChangeSame
import Derived.ChangeVars
import Derived.JoinedOf
set_option linter.all false
set_option maxHeartbeats 2000000
namespace Go.Proofs.YtcijjbccigbflaaGreatDoor
open Go Go.RowKit Ox Ox.Rn
def run117:FnZ (Laid gsT) Tryz.prog 117 (.bool true):=q99 xok (by decide +kernel) (nx:=8) (yyc rfl) (RestF.step z8i (RestF.step z8h (RestF.step z8g (RestF.step z8f (q95 z8e)))))
def exD:List Ox.Sh.Sh:=[(3,10,2,()),(5,4,6,()),(2,8,7,())]
def en18:enR Tryz.prog 18=some (Tryz.f18,Tryz.f18.body.getD .skip):=by unfold enR;rw[Tryz.func18];rfl
noncomputable def trD:Tr:=.nd (.nd (.nd (.nd (.lf (.i .i64 3)) (.lf (.i .i64 7))) (.lf (.i .i64 4))) (.lf (.i .i64 2))) (.nd (.nd (.lf (.i .i64 10)) (.lf (.i .i64 6))) (.nd (.lf (.i .i64 5)) (.nd (.lf (.i .i64 8)) (.lf .u))))
def j29:lk (mapH ⟨mkG L18_0.h,[]⟩) 16=some (.raw 53 (some 3) (3*3) trD.get):=lkH (o:=.blk 53 (some 3) 9 4 trD) (z47 (q:=⟨mkG L18_0.h,[]⟩) (l:=L18_0.h) (by decide +kernel) _ (yyh _ (yyh _ yyi)))
def z5o:∀ i,i<3→Tr.get trD (i*3)=.i .i64 (exD.getD i Sh.z0).1∧Tr.get trD (i*3+1)=.i .i64 (exD.getD i Sh.z0).2.1∧Tr.get trD (i*3+2)=.i .i64 (exD.getD i Sh.z0).2.2.1
 |0,_=>⟨rfl,rfl,rfl⟩
 |1,_=>⟨rfl,rfl,rfl⟩
 |2,_=>⟨rfl,rfl,rfl⟩
 |i+3,h=>absurd h (by omega)
def kind12:Ox.Fn Tryz.prog 7 (.acons (Pr.vD exD) (.acons (Pr.vI 1) (.acons (Pr.vI 2) .anil))) (·=Pr.vT2 2 0):=by have:=Pr.fn7 exD 1 2;rwa[show Pr.kindI exD 1 2=2 by decide +kernel,show Pr.kindE exD 1 2=0 by decide +kernel] at this
def kind01:Ox.Fn Tryz.prog 7 (.acons (Pr.vD exD) (.acons (Pr.vI 0) (.acons (Pr.vI 1) .anil))) (·=Pr.vT2 0 0):=by have:=Pr.fn7 exD 0 1;rwa[show Pr.kindI exD 0 1=0 by decide +kernel,show Pr.kindE exD 0 1=0 by decide +kernel] at this
def count3:Ox.Fn Tryz.prog 10 (.acons (Pr.vD exD) .anil) (·=Pr.vT2 1 0):=by have:=Pr.fn10 exD;rwa[show Pr.countI exD=1 by decide +kernel,show Pr.dayE exD=0 by decide +kernel] at this
def z9q(h:RestF Tryz.prog 18 11 L18_1):RestF Tryz.prog 18 10 L18_0:=by
 refine q8y en18 (k:=10) rfl (by decide +kernel) (by decide +kernel) (fun X hm=>?_) h;obtain⟨P,T,ET,MT,E,M0,n,rd,up,dp⟩:=X;obtain⟨hP,hX,hn,ha,hb⟩:=hm;dsimp only at hP hn;subst hP;subst hn;refine q3y ?_;refine q53 hX rfl rfl ?_ trivial;refine z1y (kind12) rfl rfl ?_ ?_ ?_
 ·exact⟨trivial,trivial,trivial,trivial⟩
 ·intro M ρ a w h1 h2;refine⟨_,_,?_,?_,rfl⟩
  ·have hv:=(h2.reg 80 (.raw (.o 16 3 0 3 false 0)) rfl).2;have hv:a.tmps.getD 80 undef=_:=hv;show AV.rv _ _ _ (a.tmps.getD 80 undef);rw[hv];exact z4p h1 (n:=3) rfl j29 z5o
  ·exact⟨_,_,w9.2 rfl,⟨_,_,w9.2 rfl,rfl,rfl⟩,rfl⟩
 repeat refine q53 hX rfl rfl ?_ trivial
 exact JL.nil ⟨rfl,z5f rfl rfl (by decide +kernel)⟩
def z9p(h:RestF Tryz.prog 18 12 L18_2):RestF Tryz.prog 18 11 L18_1:=by
 refine q8y en18 (k:=11) rfl (by decide +kernel) (by decide +kernel) (fun X hm=>?_) h;obtain⟨P,T,ET,MT,E,M0,n,rd,up,dp⟩:=X;obtain⟨hP,hX,hn,ha,hb⟩:=hm;dsimp only at hP hn;subst hP;subst hn;refine q3y ?_;refine q53 hX rfl rfl ?_ trivial;refine z1y (kind01) rfl rfl ?_ ?_ ?_
 ·exact⟨trivial,trivial,trivial,trivial⟩
 ·intro M ρ a w h1 h2;refine⟨_,_,?_,?_,rfl⟩
  ·have hv:=(h2.reg 85 (.raw (.o 16 3 0 3 false 0)) rfl).2;have hv:a.tmps.getD 85 undef=_:=hv;show AV.rv _ _ _ (a.tmps.getD 85 undef);rw[hv];exact z4p h1 (n:=3) rfl j29 z5o
  ·exact⟨_,_,w9.2 rfl,⟨_,_,w9.2 rfl,rfl,rfl⟩,rfl⟩
 repeat refine q53 hX rfl rfl ?_ trivial
 exact JL.nil ⟨rfl,z5f rfl rfl (by decide +kernel)⟩
def z9o(h:RestF Tryz.prog 18 13 L18_3):RestF Tryz.prog 18 12 L18_2:=by
 refine q8y en18 (k:=12) rfl (by decide +kernel) (by decide +kernel) (fun X hm=>?_) h;obtain⟨P,T,ET,MT,E,M0,n,rd,up,dp⟩:=X;obtain⟨hP,hX,hn,ha,hb⟩:=hm;dsimp only at hP hn;subst hP;subst hn;refine q3y ?_;refine q53 hX rfl rfl ?_ trivial;refine z1y (count3) rfl rfl ?_ ?_ ?_
 ·exact⟨trivial,trivial⟩
 ·intro M ρ a w h1 h2;refine⟨_,_,?_,?_,rfl⟩
  ·have hv:=(h2.reg 90 (.raw (.o 16 3 0 3 false 0)) rfl).2;have hv:a.tmps.getD 90 undef=_:=hv;show AV.rv _ _ _ (a.tmps.getD 90 undef);rw[hv];exact z4p h1 (n:=3) rfl j29 z5o
  ·exact rfl
 repeat refine q53 hX rfl rfl ?_ trivial
 exact JL.nil ⟨rfl,z5f rfl rfl (by decide +kernel)⟩
def run18:FnZ (Laid gsT) Tryz.prog 18 (.bool true):=q99 xok (by decide +kernel) (nx:=8) (yyc rfl) (RestF.step j0k (z9q (z9p (z9o (q95 j0j)))))
end Go.Proofs.YtcijjbccigbflaaGreatDoor
namespace Go.Proofs.YtcijjbccigbflaaGreatDoor
open Go Go.RowKit Ox Ox.Gl
def run5:FnZ (Rn.Laid gsT) Tryz.prog 5 (.bool true):=works06 (works05 (works04 (works03 run115 run116 run117) run73) run39) run18
def law3(l:List Sh.Sh):FnL (Rn.Laid gsT) Tryz.prog 3 (.acons (Pr.vD l) .anil) (·=vB' true):=(fn3 (gs:=gsT) (by unfold gsT;exact yyh _ yyi) run5 l).toL
end Go.Proofs.YtcijjbccigbflaaGreatDoor
namespace Go.Proofs.YtcijjbccigbflaaGreatDoor
open Go Go.RowKit Go.ChangeShapes Go.WideShapes Go.ChangeAt Ox
def own_knob:ownKnob Tryz.prog.godebug=none:=by kernel_rfl
def z4h{W:World}(h:laidMetH Tryz.prog [("math/bits.deBruijn32tab",Rows.laid_math_bits_deBruijn32tab),("math/bits.deBruijn64tab",Rows.laid_math_bits_deBruijn64tab)] W):Rn.Laid gsT (fun b=>W.heap[b]?):=by
 rw[MakeChecks.laidMetH_plain _ _ _ (by kernel_rfl)] at h;obtain⟨ps,h,_⟩:=h;intro q hq;rcases yym.1 hq with rfl|hq
 ·exact z06 (name:= "math/bits.deBruijn32tab") (k:=.u8) (xs:=g0.2.2.2) (e:=5) (by kernel_rfl) rfl (by kernel_rfl) (by kernel_rfl) (by kernel_rfl) h yyi
 rcases yym.1 hq with rfl|hq
 ·exact z06 (name:= "math/bits.deBruijn64tab") (k:=.u8) (xs:=g1.2.2.2) (e:=5) (by kernel_rfl) rfl (by kernel_rfl) (by kernel_rfl) (by kernel_rfl) h (yyh _ yyi)
 ·cases hq
set_option maxRecDepth 100000 in
def q17(os:Os)(started:os.Started)(H:Type)(enc:TypeId×Value→H) :
  ReturnsInHanded {} Tryz.checked os 3 .any (fun w args=>(Rows.topGalledPressesSpec.pre enc Tryz.prog Tryz.f3 [] false w args∧laidMetH Tryz.prog [("math/bits.deBruijn32tab",Rows.laid_math_bits_deBruijn32tab),("math/bits.deBruijn64tab",Rows.laid_math_bits_deBruijn64tab)] w)∧sizedMet enc Tryz.prog Tryz.f3 (OpenSpec.ofChange Rows.topGalledPressesSpec) false w args)
   (Rows.topGalledPressesSpec.post enc Tryz.prog Tryz.f3 false true false false):=by
 refine returnsInHanded_of_change_and (C:=Tryz.checked) (X:=fun w _=>laidMetH Tryz.prog [("math/bits.deBruijn32tab",Rows.laid_math_bits_deBruijn32tab),("math/bits.deBruijn64tab",Rows.laid_math_bits_deBruijn64tab)] w) (fun _ _ _ hh h=>h.of_heap hh) own_knob started (by kernel_rfl) Tryz.func3
  (ChangeSpec.witness_shaped (enc:=enc) (C:=Tryz.checked) (os:=os) (X:=fun w _=>laidMetH Tryz.prog [("math/bits.deBruijn32tab",Rows.laid_math_bits_deBruijn32tab),("math/bits.deBruijn64tab",Rows.laid_math_bits_deBruijn64tab)] w) false (World.laidAll Tryz.prog os [("math/bits.deBruijn32tab",Rows.laid_math_bits_deBruijn32tab),("math/bits.deBruijn64tab",Rows.laid_math_bits_deBruijn64tab)]) #[.slice none 0 0] 8 (World.laidAll_os _ _ _)
   (World.shaped_of_ZipB (by kernel_rfl) (by kernel_rfl)) (by kernel_rfl) (by kernel_rfl) (by kernel_rfl)
   (by rw[MakeChecks.laidMetH_plain _ _ _ (by kernel_rfl)];exact laidMet_laidAll _ (by kernel_rfl) (by kernel_rfl))) ?_
 intro W base args ds gs before hval hW _ _ hL _;refine z8q (ts:=[.slice (.cons (.int .i64) (.cons (.int .i64) (.cons (.int .i64) .nil)))]) (z4h hL) (fun ys hf=>law3 ys.1) (by kernel_rfl) (by kernel_rfl) rfl (fun ds h=>?_) (by kernel_rfl) Tryz.underlying4 hval hW
 match ds,h with
 |[_],_=>exact⟨rfl,rfl,rfl⟩
def q2r:Tryz.pinned.checked.prog.funcNamed Rows.topGalledPressesRow.func=some 3:=by kernel_rfl
def q2u:Tryz.f3.isInstance Tryz.pinned.checked.prog Rows.topGalledPressesRow.origin Rows.topGalledPressesRow.targs:=of_decide_eq_true (by kernel_rfl)
def q2t:Tryz.f3.isWrapper Tryz.pinned.checked.prog Rows.topGalledPressesRow.wrapper Rows.topGalledPressesRow.mainSum:=by unfold Func.isWrapper;first|(rw[if_pos (by decide +kernel)];kernel_rfl)|(rw[if_neg (by decide +kernel)];exact⟨rfl,rfl⟩)
def topGalledPresses_row:Rows.TopGalledPressesSaid:=
 OpenClaim.holds_of_wide 3 Tryz.f3 rfl rfl rfl rfl rfl rfl rfl ⟨rfl,rfl,rfl,rfl,rfl⟩ rfl rfl rfl rfl rfl q2r Tryz.func3 q2s q2u q2t
  (fun os started H enc _=>q17 os started H enc)
end Go.Proofs.YtcijjbccigbflaaGreatDoor
