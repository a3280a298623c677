/- Texts of the proof of the statement that the last text proves. -/
import Derived.Test.YtjecebccchhmhaaGreatDoorPsg
import Derived.Test.YtjecebccchhmhaaGreatDoorPsr0
import Derived.Test.YtjecebccchhmhaaGreatDoorPsr1
import Derived.Test.YtjecebccchhmhaaGreatDoorPsr2
import Derived.Test.YtjecebccchhmhaaGreatDoorPsr3
import Derived.Test.YtjecebccchhmhaaGreatDoorPsr4
import Derived.Test.YtjecebccchhmhaaGreatDoorPsr5
import Derived.Test.YtjecebccchhmhaaGreatDoorPsr6
import Derived.Test.YtjecebccchhmhaaGreatDoorPsr7
import Derived.Test.YtjecebccchhmhaaGreatDoorPsr8
import Derived.Test.YtjecebccchhmhaaGreatDoorPsr9
import Derived.Test.YtjecebccchhmhaaGreatDoorRows
import Derived.Test.YtjecebccchhmhaaGreatDoorTie
import Derived.Test.YtjecebccchhmhaaGreatDoorCards
import Derived.ProofKit
import Derived.LaidMore
import Derived.Lay
import Derived.SevenTiedAt
import Derived.Stop.Joined
import Derived.ChangeSame
import Derived.ChangeVars
import Derived.JoinedOf
set_option linter.all false
set_option maxHeartbeats 2000000
namespace Go.Proofs.YtjecebccchhmhaaGreatDoor
open Go Go.RowKit Ox Ox.Rn
def run47:FnZ (Laid gsT) Tryz.prog 47 (.bool true):=z5z xok (by decide +kernel) (nx:=8) (yyd rfl) (q29 z7d (q29 z7c (q29 z7b (q29 z7a (z5r z69)))))
end Go.Proofs.YtjecebccchhmhaaGreatDoor
namespace Go.Proofs.YtjecebccchhmhaaGreatDoor
open Go Go.RowKit Ox Ox.Gl
def run17:FnZ (Rn.Laid gsT) Tryz.prog 17 (.bool true):=works03 run45 run46 run47
def law4(s:Cb.shT.den){w:List Int}(hw:∀ y∈w,0≤y∧y≤255):FnL (Rn.Laid gsT) Tryz.prog 4 (.acons (.val Cb.shT s) (.acons (vU w) .anil)) (·=vB true):=(fn4 (gs:=gsT) (by unfold gsT;exact yyi _ yyh) run17 s.1 s.2.1 w hw).toL
end Go.Proofs.YtjecebccchhmhaaGreatDoor
namespace Go.Proofs.YtjecebccchhmhaaGreatDoor
open Go Go.RowKit Go.ChangeShapes Go.WideShapes Go.ChangeAt Ox
def own_knob:ownKnob Tryz.prog.godebug=none:=by kernel_rfl
def z1t{W:World}(h:laidMetH Tryz.prog [("math/bits.deBruijn32tab",Rows.laid_math_bits_deBruijn32tab),("math/bits.deBruijn64tab",Rows.laid_math_bits_deBruijn64tab)] W):Rn.Laid gsT (fun b=>W.heap[b]?):=by
 rw[MakeChecks.laidMetH_plain _ _ _ (by kernel_rfl)] at h;obtain⟨ps,h,_⟩:=h;intro q hq;rcases yym.1 hq with rfl|hq
 ·exact q86 (name:= "math/bits.deBruijn32tab") (k:=.u8) (xs:=g0.2.2.2) (e:=5) (by kernel_rfl) rfl (by kernel_rfl) (by kernel_rfl) (by kernel_rfl) h yyh
 rcases yym.1 hq with rfl|hq
 ·exact q86 (name:= "math/bits.deBruijn64tab") (k:=.u8) (xs:=g1.2.2.2) (e:=5) (by kernel_rfl) rfl (by kernel_rfl) (by kernel_rfl) (by kernel_rfl) h (yyi _ yyh)
 ·cases hq
set_option maxRecDepth 100000 in
def q1i(os:Os)(started:os.Started)(H:Type)(enc:TypeId×Value→H) :
  ReturnsInHanded {} Tryz.checked os 4 .any (fun w args=>(Rows.topCombedStrokesSpec.pre enc Tryz.prog Tryz.f4 [] false w args∧laidMetH Tryz.prog [("math/bits.deBruijn32tab",Rows.laid_math_bits_deBruijn32tab),("math/bits.deBruijn64tab",Rows.laid_math_bits_deBruijn64tab)] w)∧sizedMet enc Tryz.prog Tryz.f4 (OpenSpec.ofChange Rows.topCombedStrokesSpec) false w args)
   (Rows.topCombedStrokesSpec.post enc Tryz.prog Tryz.f4 false true false false):=by
 refine returnsInHanded_of_change_and (C:=Tryz.checked) (X:=fun w _=>laidMetH Tryz.prog [("math/bits.deBruijn32tab",Rows.laid_math_bits_deBruijn32tab),("math/bits.deBruijn64tab",Rows.laid_math_bits_deBruijn64tab)] w) (fun _ _ _ hh h=>h.of_heap hh) own_knob started (by kernel_rfl) Tryz.func4
  (ChangeSpec.witness_shaped (enc:=enc) (C:=Tryz.checked) (os:=os) (X:=fun w _=>laidMetH Tryz.prog [("math/bits.deBruijn32tab",Rows.laid_math_bits_deBruijn32tab),("math/bits.deBruijn64tab",Rows.laid_math_bits_deBruijn64tab)] w) false (World.laidAll Tryz.prog os [("math/bits.deBruijn32tab",Rows.laid_math_bits_deBruijn32tab),("math/bits.deBruijn64tab",Rows.laid_math_bits_deBruijn64tab)]) #[.agg #[.slice none 0 0,.slice none 0 0],.slice none 0 0] 8 (World.laidAll_os _ _ _)
   (World.shaped_of_ZipB (by kernel_rfl) (by kernel_rfl)) (by kernel_rfl) (by kernel_rfl) (by kernel_rfl)
   (by rw[MakeChecks.laidMetH_plain _ _ _ (by kernel_rfl)];exact laidMet_laidAll _ (by kernel_rfl) (by kernel_rfl))) ?_
 intro W base args ds gs before hval hW _ _ hL _;refine z5f (ts:=[.cons (.slice (.cons (.int .i64) (.cons (.int .i64) .nil))) (.cons (.slice (.cons (.int .i64) (.cons (.int .i64) .nil))) .nil),.slice (.int .u8)]) (z1t hL) (fun ys hf=>law4 ys.1 (w:=ys.2.1) hf.2.1) (by kernel_rfl) (by kernel_rfl) rfl (fun ds h=>?_) (by kernel_rfl) Tryz.underlying4 hval hW
 match ds,h with
 |[_,_],_=>exact⟨rfl,rfl,rfl⟩
def q1z:Tryz.pinned.checked.prog.funcNamed Rows.topCombedStrokesRow.func=some 4:=by kernel_rfl
def q12:Tryz.f4.isInstance Tryz.pinned.checked.prog Rows.topCombedStrokesRow.origin Rows.topCombedStrokesRow.targs:=of_decide_eq_true (by kernel_rfl)
def q11:Tryz.f4.isWrapper Tryz.pinned.checked.prog Rows.topCombedStrokesRow.wrapper Rows.topCombedStrokesRow.mainSum:=by unfold Func.isWrapper;first|(rw[if_pos (by decide +kernel)];kernel_rfl)|(rw[if_neg (by decide +kernel)];exact⟨rfl,rfl⟩)
def topCombedStrokes_row:Rows.TopCombedStrokesSaid:=
 OpenClaim.holds_of_wide 4 Tryz.f4 rfl rfl rfl rfl rfl rfl rfl ⟨rfl,rfl,rfl,rfl,rfl⟩ rfl rfl rfl rfl rfl q1z Tryz.func4 q10 q12 q11
  (fun os started H enc _=>q1i os started H enc)
end Go.Proofs.YtjecebccchhmhaaGreatDoor
