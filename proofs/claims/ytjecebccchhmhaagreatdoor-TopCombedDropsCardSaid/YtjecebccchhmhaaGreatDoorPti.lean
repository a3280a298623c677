/- Texts of the proof of the statement that the last text proves. -/
import Derived.Test.YtjecebccchhmhaaGreatDoorPth
import Derived.Test.YtjecebccchhmhaaGreatDoorPtr0
import Derived.Test.YtjecebccchhmhaaGreatDoorPtr1
import Derived.Test.YtjecebccchhmhaaGreatDoorPtr2
import Derived.Test.YtjecebccchhmhaaGreatDoorPtr3
import Derived.Test.YtjecebccchhmhaaGreatDoorPtr4
import Derived.Test.YtjecebccchhmhaaGreatDoorPtr5
import Derived.Test.YtjecebccchhmhaaGreatDoorPtr6
import Derived.Test.YtjecebccchhmhaaGreatDoorPtr7
import Derived.Test.YtjecebccchhmhaaGreatDoorPtr8
import Derived.Test.YtjecebccchhmhaaGreatDoorRows
import Derived.Test.YtjecebccchhmhaaGreatDoorTie
import Derived.Test.YtjecebccchhmhaaGreatDoorCards
import Derived.ProofKit
import Derived.LaidMore
import Derived.Lay
import Derived.SevenTiedAt
import Derived.Stop.Joined
import Derived.ChangeSame
import Derived.ChangeVars
import Derived.JoinedOf
set_option linter.all false
set_option maxHeartbeats 2000000
namespace Go.Proofs.YtjecebccchhmhaaGreatDoor
open Go Go.RowKit Ox Ox.Rn
def run47:FnZ (Laid gsT) Tryz.prog 47 (.bool true):=z72 xok (by decide +kernel) (nx:=8) (yyd rfl) (q64 z9d (q64 z9c (q64 z9b (z7m z9a))))
end Go.Proofs.YtjecebccchhmhaaGreatDoor
namespace Go.Proofs.YtjecebccchhmhaaGreatDoor
open Go Go.RowKit Ox Ox.Gl
def law3{a b c d e:Int}(b1:0≤a∧a≤255)(b2:0≤b∧b≤255)(b3:0≤c∧c≤255)(b4:0≤d∧d≤65535)(b5:0≤e∧e≤65535) :
  FnL (Rn.Laid gsT) Tryz.prog 3 (.acons (.val (.int .u8) a) (.acons (.val (.int .u8) b) (.acons (.val (.int .u8) c) (.acons (.val (.int .u16) d) (.acons (.val (.int .u16) e) .anil))))) (·=vB true):=
 (Dp.fn3 (gs:=gsT) (by unfold gsT;exact yyj _ yyh) (works03 run45 run46 run47) a b c d e b1 b2 b3 b4 b5).toL
end Go.Proofs.YtjecebccchhmhaaGreatDoor
namespace Go.Proofs.YtjecebccchhmhaaGreatDoor
open Go Go.RowKit Go.ChangeShapes Go.WideShapes Go.ChangeAt Ox
def own_knob:ownKnob Tryz.prog.godebug=none:=by kernel_rfl
def z3b{W:World}(h:laidMetH Tryz.prog [("math/bits.deBruijn32tab",Rows.laid_math_bits_deBruijn32tab),("math/bits.deBruijn64tab",Rows.laid_math_bits_deBruijn64tab)] W):Rn.Laid gsT (fun b=>W.heap[b]?):=by
 rw[MakeChecks.laidMetH_plain _ _ _ (by kernel_rfl)] at h;obtain⟨ps,h,_⟩:=h;intro q hq;rcases yyk.1 hq with rfl|hq
 ·exact z0n (name:= "math/bits.deBruijn32tab") (k:=.u8) (xs:=g0.2.2.2) (e:=5) (by kernel_rfl) rfl (by kernel_rfl) (by kernel_rfl) (by kernel_rfl) h yyh
 rcases yyk.1 hq with rfl|hq
 ·exact z0n (name:= "math/bits.deBruijn64tab") (k:=.u8) (xs:=g1.2.2.2) (e:=5) (by kernel_rfl) rfl (by kernel_rfl) (by kernel_rfl) (by kernel_rfl) h (yyj _ yyh)
 ·cases hq
set_option maxRecDepth 100000 in
def q3a(os:Os)(started:os.Started)(H:Type)(enc:TypeId×Value→H) :
  ReturnsInHanded {} Tryz.checked os 3 .any (fun w args=>(Rows.topCombedDropsSpec.pre enc Tryz.prog Tryz.f3 [] false w args∧laidMetH Tryz.prog [("math/bits.deBruijn32tab",Rows.laid_math_bits_deBruijn32tab),("math/bits.deBruijn64tab",Rows.laid_math_bits_deBruijn64tab)] w)∧sizedMet enc Tryz.prog Tryz.f3 (OpenSpec.ofChange Rows.topCombedDropsSpec) false w args)
   (Rows.topCombedDropsSpec.post enc Tryz.prog Tryz.f3 false true false false):=by
 refine returnsInHanded_of_change_and (C:=Tryz.checked) (X:=fun w _=>laidMetH Tryz.prog [("math/bits.deBruijn32tab",Rows.laid_math_bits_deBruijn32tab),("math/bits.deBruijn64tab",Rows.laid_math_bits_deBruijn64tab)] w) (fun _ _ _ hh h=>h.of_heap hh) own_knob started (by kernel_rfl) Tryz.func3
  (ChangeSpec.witness_shaped (enc:=enc) (C:=Tryz.checked) (os:=os) (X:=fun w _=>laidMetH Tryz.prog [("math/bits.deBruijn32tab",Rows.laid_math_bits_deBruijn32tab),("math/bits.deBruijn64tab",Rows.laid_math_bits_deBruijn64tab)] w) false (World.laidAll Tryz.prog os [("math/bits.deBruijn32tab",Rows.laid_math_bits_deBruijn32tab),("math/bits.deBruijn64tab",Rows.laid_math_bits_deBruijn64tab)]) #[.int .u8 0,.int .u8 0,.int .u8 0,.int .u16 0,.int .u16 0] 8 (World.laidAll_os _ _ _)
   (World.shaped_of_ZipB (by kernel_rfl) (by kernel_rfl)) (by kernel_rfl) (by kernel_rfl) (by kernel_rfl)
   (by rw[MakeChecks.laidMetH_plain _ _ _ (by kernel_rfl)];exact laidMet_laidAll _ (by kernel_rfl) (by kernel_rfl))) ?_
 intro W base args ds gs before hval hW _ _ hL _;refine z7c (ts:=[.int .u8,.int .u8,.int .u8,.int .u16,.int .u16]) (z3b hL) (fun ys hf=>law3 (a:=ys.1) (b:=ys.2.1) (c:=ys.2.2.1) (d:=ys.2.2.2.1) (e:=ys.2.2.2.2.1) hf.1 hf.2.1 hf.2.2.1 hf.2.2.2.1 hf.2.2.2.2.1) (by kernel_rfl) (by kernel_rfl) rfl (fun ds h=>?_) (by kernel_rfl) Tryz.underlying4 hval hW
 match ds,h with
 |[_,_,_,_,_],_=>exact⟨rfl,rfl,rfl⟩
def q33:Tryz.pinned.checked.prog.funcNamed Rows.topCombedDropsRow.func=some 3:=by kernel_rfl
def q4b:Tryz.f3.isInstance Tryz.pinned.checked.prog Rows.topCombedDropsRow.origin Rows.topCombedDropsRow.targs:=of_decide_eq_true (by kernel_rfl)
def q4a:Tryz.f3.isWrapper Tryz.pinned.checked.prog Rows.topCombedDropsRow.wrapper Rows.topCombedDropsRow.mainSum:=by unfold Func.isWrapper;first|(rw[if_pos (by decide +kernel)];kernel_rfl)|(rw[if_neg (by decide +kernel)];exact⟨rfl,rfl⟩)
def topCombedDrops_row:Rows.TopCombedDropsSaid:=
 OpenClaim.holds_of_wide 3 Tryz.f3 rfl rfl rfl rfl rfl rfl rfl ⟨rfl,rfl,rfl,rfl,rfl⟩ rfl rfl rfl rfl rfl q33 Tryz.func3 q34 q4b q4a
  (fun os started H enc _=>q3a os started H enc)
end Go.Proofs.YtjecebccchhmhaaGreatDoor
