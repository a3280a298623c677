/- Texts of the proof of the statement that the last text proves. -/
import Derived.Test.YtjmhhehhfeengaaGreatDoorPqg
import Derived.Test.YtjmhhehhfeengaaGreatDoorPqr0
import Derived.Test.YtjmhhehhfeengaaGreatDoorPqr1
import Derived.Test.YtjmhhehhfeengaaGreatDoorPqr2
import Derived.Test.YtjmhhehhfeengaaGreatDoorPqr3
import Derived.Test.YtjmhhehhfeengaaGreatDoorPqr4
import Derived.Test.YtjmhhehhfeengaaGreatDoorPqr5
import Derived.Test.YtjmhhehhfeengaaGreatDoorPqr6
import Derived.Test.YtjmhhehhfeengaaGreatDoorPqr7
import Derived.Test.YtjmhhehhfeengaaGreatDoorPqr8
import Derived.Test.YtjmhhehhfeengaaGreatDoorPqr9
import Derived.Test.YtjmhhehhfeengaaGreatDoorPqr10
import Derived.Test.YtjmhhehhfeengaaGreatDoorPqr11
import Derived.Test.YtjmhhehhfeengaaGreatDoorPqr12
import Derived.Test.YtjmhhehhfeengaaGreatDoorPqr13
import Derived.Test.YtjmhhehhfeengaaGreatDoorPqr14
import Derived.Test.YtjmhhehhfeengaaGreatDoorPqr15
import Derived.Test.YtjmhhehhfeengaaGreatDoorPqr16
import Derived.Test.YtjmhhehhfeengaaGreatDoorPqr17
import Derived.Test.YtjmhhehhfeengaaGreatDoorPqr18
import Derived.Test.YtjmhhehhfeengaaGreatDoorPqr19
import Derived.Test.YtjmhhehhfeengaaGreatDoorRows
import Derived.Test.YtjmhhehhfeengaaGreatDoorTie
import Derived.Test.YtjmhhehhfeengaaGreatDoorCards
import Derived.ProofKit
import Derived.LaidMore
import Derived.Lay
import Derived.SevenTiedAt
import Derived.Stop.Joined
import Derived.ChangeSame
import Derived.ChangeVars
import Derived.JoinedOf
set_option linter.all false
set_option maxHeartbeats 2000000
namespace Go.Proofs.YtjmhhehhfeengaaGreatDoor
open Go Go.RowKit Ox Ox.Rn
def run100:FnZ (Laid gsT) Tryz.prog 100 (.bool true):=z0t xok (by decide +kernel) (nx:=8) (yyc rfl) (RestF.step z8x (RestF.step z8w (RestF.step z8v (RestF.step z8u (RestF.step z8t (RestF.step z8s (RestF.step z8r (RestF.step z8q (RestF.step z8p (RestF.step z8o (z0p z4z)))))))))))
def exD:List Ox.Sh.Sh:=[(3,10,2,()),(5,4,6,()),(2,8,7,())]
def en12:enR Tryz.prog 12=some (Tryz.f12,Tryz.f12.body.getD .skip):=by unfold enR;rw[Tryz.func12];rfl
noncomputable def trD:Tr:=.nd (.nd (.nd (.nd (.lf (.i .i64 3)) (.lf (.i .i64 7))) (.lf (.i .i64 4))) (.lf (.i .i64 2))) (.nd (.nd (.lf (.i .i64 10)) (.lf (.i .i64 6))) (.nd (.lf (.i .i64 5)) (.nd (.lf (.i .i64 8)) (.lf .u))))
def j3u:lk (mapH ⟨mkG L12_0.h,[]⟩) 16=some (.raw 68 (some 3) (3*3) trD.get):=lkH (o:=.blk 68 (some 3) 9 4 trD) (z5e (q:=⟨mkG L12_0.h,[]⟩) (l:=L12_0.h) (by decide +kernel) _ (yyh _ (yyh _ yyg)))
def z5x:∀ i,i<3→(Tr.get trD (i*3)=.i .i64 (exD.getD i Sh.z0).1∧Tr.get trD (i*3+1)=.i .i64 (exD.getD i Sh.z0).2.1∧Tr.get trD (i*3+2)=.i .i64 (exD.getD i Sh.z0).2.2.1)
 |0,_=>⟨rfl,rfl,rfl⟩
 |1,_=>⟨rfl,rfl,rfl⟩
 |2,_=>⟨rfl,rfl,rfl⟩
 |i+3,h=>absurd h (by omega)
def kind12:Ox.Fn Tryz.prog 35 (.acons (Pr.vD exD) (.acons (Pr.vI 1) (.acons (Pr.vI 2) .anil))) (·=Pr.vT2 2 0):=by have:=Pr.fn35 exD 1 2;rwa[show Pr.kindI exD 1 2=2 by decide +kernel,show Pr.kindE exD 1 2=0 by decide +kernel] at this
def kind01:Ox.Fn Tryz.prog 35 (.acons (Pr.vD exD) (.acons (Pr.vI 0) (.acons (Pr.vI 1) .anil))) (·=Pr.vT2 0 0):=by have:=Pr.fn35 exD 0 1;rwa[show Pr.kindI exD 0 1=0 by decide +kernel,show Pr.kindE exD 0 1=0 by decide +kernel] at this
def count3:Ox.Fn Tryz.prog 36 (.acons (Pr.vD exD) .anil) (·=Pr.vT2 1 0):=by have:=Pr.fn36 exD;rwa[show Pr.countI exD=1 by decide +kernel,show Pr.dayE exD=0 by decide +kernel] at this
def j0d(h:RestF Tryz.prog 12 11 L12_1):RestF Tryz.prog 12 10 L12_0:=by
 refine q9i en12 (k:=10) rfl (by decide +kernel) (by decide +kernel) (fun X hm=>?_) h;obtain⟨P,T,ET,MT,E,M0,n,rd,up,dp⟩:=X;obtain⟨hP,hX,hn,hdp,hrd⟩:=hm;dsimp only at hP hn;subst hP;subst hn;refine q3p ?_;refine q4n hX rfl rfl ?_ trivial;refine z2o (kind12) rfl rfl ?_ ?_ ?_
 ·exact⟨trivial,trivial,trivial,trivial⟩
 ·intro M ρ a w h1 h2;refine⟨_,_,?_,?_,rfl⟩
  ·have hv:=(h2.reg 80 (.raw (.o 16 3 0 3 false 0)) rfl).2;have hv:a.tmps.getD 80 undef=_:=hv;show AV.rv _ _ _ (a.tmps.getD 80 undef);rw[hv];exact z4t h1 (n:=3) rfl j3u z5x
  ·exact⟨_,_,v8.2 rfl,⟨_,_,v8.2 rfl,rfl,rfl⟩,rfl⟩
 repeat refine q4n hX rfl rfl ?_ trivial
 exact JL.nil ⟨rfl,z5n rfl rfl (by decide +kernel)⟩
def j0c(h:RestF Tryz.prog 12 12 L12_2):RestF Tryz.prog 12 11 L12_1:=by
 refine q9i en12 (k:=11) rfl (by decide +kernel) (by decide +kernel) (fun X hm=>?_) h;obtain⟨P,T,ET,MT,E,M0,n,rd,up,dp⟩:=X;obtain⟨hP,hX,hn,hdp,hrd⟩:=hm;dsimp only at hP hn;subst hP;subst hn;refine q3p ?_;refine q4n hX rfl rfl ?_ trivial;refine z2o (kind01) rfl rfl ?_ ?_ ?_
 ·exact⟨trivial,trivial,trivial,trivial⟩
 ·intro M ρ a w h1 h2;refine⟨_,_,?_,?_,rfl⟩
  ·have hv:=(h2.reg 85 (.raw (.o 16 3 0 3 false 0)) rfl).2;have hv:a.tmps.getD 85 undef=_:=hv;show AV.rv _ _ _ (a.tmps.getD 85 undef);rw[hv];exact z4t h1 (n:=3) rfl j3u z5x
  ·exact⟨_,_,v8.2 rfl,⟨_,_,v8.2 rfl,rfl,rfl⟩,rfl⟩
 repeat refine q4n hX rfl rfl ?_ trivial
 exact JL.nil ⟨rfl,z5n rfl rfl (by decide +kernel)⟩
def j0b(h:RestF Tryz.prog 12 13 L12_3):RestF Tryz.prog 12 12 L12_2:=by
 refine q9i en12 (k:=12) rfl (by decide +kernel) (by decide +kernel) (fun X hm=>?_) h;obtain⟨P,T,ET,MT,E,M0,n,rd,up,dp⟩:=X;obtain⟨hP,hX,hn,hdp,hrd⟩:=hm;dsimp only at hP hn;subst hP;subst hn;refine q3p ?_;refine q4n hX rfl rfl ?_ trivial;refine z2o (count3) rfl rfl ?_ ?_ ?_
 ·exact⟨trivial,trivial⟩
 ·intro M ρ a w h1 h2;refine⟨_,_,?_,?_,rfl⟩
  ·have hv:=(h2.reg 90 (.raw (.o 16 3 0 3 false 0)) rfl).2;have hv:a.tmps.getD 90 undef=_:=hv;show AV.rv _ _ _ (a.tmps.getD 90 undef);rw[hv];exact z4t h1 (n:=3) rfl j3u z5x
  ·exact rfl
 repeat refine q4n hX rfl rfl ?_ trivial
 exact JL.nil ⟨rfl,z5n rfl rfl (by decide +kernel)⟩
def run12:FnZ (Laid gsT) Tryz.prog 12 (.bool true):=z0t xok (by decide +kernel) (nx:=8) (yyc rfl) (RestF.step j08 (j0d (j0c (j0b (RestF.step j07 (z0p j06))))))
end Go.Proofs.YtjmhhehhfeengaaGreatDoor
namespace Go.Proofs.YtjmhhehhfeengaaGreatDoor
open Go Go.RowKit Ox Ox.Sh Ox.Se
def run4:FnZ (Rn.Laid gsT) Tryz.prog 4 (.bool true):=works06 (works05 (works04 (works03 run98 run99 run100) run56) run27) run12
def law3{ss:List SeD}{mo:List (List Int)}{u:List Int}(hmo:∀ m∈mo,∀ y∈m,0≤y∧y≤255)(hu:∀ x∈u,0≤x∧x≤255) :
  FnL (Rn.Laid gsT) Tryz.prog 3 (.acons (.val (.slice seK) ss) (.acons (.val (.slice muT) mo) (.acons (vU' u) .anil))) (·=vB' true):=
 (fn3 (gs:=gsT) run4 seamK ss mo hmo u (EN:=EN mo u) (LE:=LE mo) (fun h30 xs h1 h5 hm hx=>hE_of hmo hu h30 xs h1 h5 hm hx) (fun xs h5 hx=>hB_of hmo xs h5 hx) (fun xs ys _ hl hx hy h=>hF_of hmo xs ys hl hx hy h)).toL
end Go.Proofs.YtjmhhehhfeengaaGreatDoor
namespace Go.Proofs.YtjmhhehhfeengaaGreatDoor
open Go Go.RowKit Go.ChangeShapes Go.WideShapes Go.ChangeAt Ox
def own_knob:ownKnob Tryz.prog.godebug=none:=by kernel_rfl
def z4n{W:World}(h:laidMetH Tryz.prog [("math/bits.deBruijn32tab",Rows.laid_math_bits_deBruijn32tab),("math/bits.deBruijn64tab",Rows.laid_math_bits_deBruijn64tab)] W):Rn.Laid gsT (fun b=>W.heap[b]?):=by
 rw[MakeChecks.laidMetH_plain _ _ _ (by kernel_rfl)] at h;obtain⟨ps,h,_⟩:=h;intro q hq;rcases yyk.1 hq with rfl|hq
 ·exact z1k (name:= "math/bits.deBruijn32tab") (k:=.u8) (xs:=g0.2.2.2) (e:=5) (by kernel_rfl) rfl (by kernel_rfl) (by kernel_rfl) (by kernel_rfl) h yyg
 rcases yyk.1 hq with rfl|hq
 ·exact z1k (name:= "math/bits.deBruijn64tab") (k:=.u8) (xs:=g1.2.2.2) (e:=5) (by kernel_rfl) rfl (by kernel_rfl) (by kernel_rfl) (by kernel_rfl) h (yyh _ yyg)
 ·cases hq
set_option maxRecDepth 100000 in
def q11(os:Os)(started:os.Started)(H:Type)(enc:TypeId×Value→H) :
  ReturnsInHanded {} Tryz.checked os 3 .any (fun w args=>(Rows.topSeamedPressesSpec.pre enc Tryz.prog Tryz.f3 [] false w args∧laidMetH Tryz.prog [("math/bits.deBruijn32tab",Rows.laid_math_bits_deBruijn32tab),("math/bits.deBruijn64tab",Rows.laid_math_bits_deBruijn64tab)] w)∧sizedMet enc Tryz.prog Tryz.f3 (OpenSpec.ofChange Rows.topSeamedPressesSpec) false w args)
   (Rows.topSeamedPressesSpec.post enc Tryz.prog Tryz.f3 false true false false):=by
 refine returnsInHanded_of_change_and (C:=Tryz.checked) (X:=fun w _=>laidMetH Tryz.prog [("math/bits.deBruijn32tab",Rows.laid_math_bits_deBruijn32tab),("math/bits.deBruijn64tab",Rows.laid_math_bits_deBruijn64tab)] w) (fun _ _ _ hh h=>h.of_heap hh) own_knob started (by kernel_rfl) Tryz.func3
  (ChangeSpec.witness_shaped (enc:=enc) (C:=Tryz.checked) (os:=os) (X:=fun w _=>laidMetH Tryz.prog [("math/bits.deBruijn32tab",Rows.laid_math_bits_deBruijn32tab),("math/bits.deBruijn64tab",Rows.laid_math_bits_deBruijn64tab)] w) false (World.laidAll Tryz.prog os [("math/bits.deBruijn32tab",Rows.laid_math_bits_deBruijn32tab),("math/bits.deBruijn64tab",Rows.laid_math_bits_deBruijn64tab)]) #[.slice none 0 0,.slice none 0 0,.slice none 0 0] 8 (World.laidAll_os _ _ _)
   (World.shaped_of_ZipB (by kernel_rfl) (by kernel_rfl)) (by kernel_rfl) (by kernel_rfl) (by kernel_rfl)
   (by rw[MakeChecks.laidMetH_plain _ _ _ (by kernel_rfl)];exact laidMet_laidAll _ (by kernel_rfl) (by kernel_rfl))) ?_
 intro W base args ds gs before hval hW _ _ hL _;refine z83 (ts:=[.slice (.cons (.int .i64) (.cons (.slice (.cons (.int .i64) (.cons (.int .i64) .nil))) .nil)),.slice (.arr 2 (.int .u8)),.slice (.int .u8)]) (z4n hL) (fun ys hf=>law3 (ss:=ys.1) (mo:=ys.2.1) (u:=ys.2.2.1) hf.2.1 hf.2.2.1) (by kernel_rfl) (by kernel_rfl) rfl (fun ds h=>?_) (by kernel_rfl) Tryz.underlying4 hval hW
 match ds,h with
 |[_,_,_],_=>exact⟨rfl,rfl,rfl⟩
def q2k:Tryz.pinned.checked.prog.funcNamed Rows.topSeamedPressesRow.func=some 3:=by kernel_rfl
def q2n:Tryz.f3.isInstance Tryz.pinned.checked.prog Rows.topSeamedPressesRow.origin Rows.topSeamedPressesRow.targs:=of_decide_eq_true (by kernel_rfl)
def q2m:Tryz.f3.isWrapper Tryz.pinned.checked.prog Rows.topSeamedPressesRow.wrapper Rows.topSeamedPressesRow.mainSum:=by unfold Func.isWrapper;first|(rw[if_pos (by decide +kernel)];kernel_rfl)|(rw[if_neg (by decide +kernel)];exact⟨rfl,rfl⟩)
def topSeamedPresses_row:Rows.TopSeamedPressesSaid:=
 OpenClaim.holds_of_wide 3 Tryz.f3 rfl rfl rfl rfl rfl rfl rfl ⟨rfl,rfl,rfl,rfl,rfl⟩ rfl rfl rfl rfl rfl q2k Tryz.func3 q2l q2n q2m
  (fun os started H enc _=>q11 os started H enc)
end Go.Proofs.YtjmhhehhfeengaaGreatDoor
