/- Texts of the proof of the statement that the last text proves. -/
import Derived.Test.YtjjkdjbbkagclaaGreatDoorPjh
import Derived.Test.YtjjkdjbbkagclaaGreatDoorPjr0
import Derived.Test.YtjjkdjbbkagclaaGreatDoorPjr1
import Derived.Test.YtjjkdjbbkagclaaGreatDoorPjr2
import Derived.Test.YtjjkdjbbkagclaaGreatDoorPjr3
import Derived.Test.YtjjkdjbbkagclaaGreatDoorPjr4
import Derived.Test.YtjjkdjbbkagclaaGreatDoorPjr5
import Derived.Test.YtjjkdjbbkagclaaGreatDoorPjr6
import Derived.Test.YtjjkdjbbkagclaaGreatDoorPjr7
import Derived.Test.YtjjkdjbbkagclaaGreatDoorPjr8
import Derived.Test.YtjjkdjbbkagclaaGreatDoorPjr9
import Derived.Test.YtjjkdjbbkagclaaGreatDoorPjr10
import Derived.Test.YtjjkdjbbkagclaaGreatDoorPjr11
import Derived.Test.YtjjkdjbbkagclaaGreatDoorPjr12
import Derived.Test.YtjjkdjbbkagclaaGreatDoorPjr13
import Derived.Test.YtjjkdjbbkagclaaGreatDoorPjr14
import Derived.Test.YtjjkdjbbkagclaaGreatDoorPjr15
import Derived.Test.YtjjkdjbbkagclaaGreatDoorRows
import Derived.Test.YtjjkdjbbkagclaaGreatDoorTie
import Derived.Test.YtjjkdjbbkagclaaGreatDoorCards
import Derived.ProofKit
import Derived.LaidMore
import Derived.Lay
import Derived.SevenTiedAt
import Derived.Stop.Joined
import Derived.ChangeSame
import Derived.ChangeVars
import Derived.JoinedOf
set_option linter.all false
set_option maxHeartbeats 2000000
namespace Go.Proofs.YtjjkdjbbkagclaaGreatDoor
open Go Go.RowKit Ox Ox.Rn
def run95:FnZ (Laid gsT) Tryz.prog 95 (.bool true):=z8o xok (by decide +kernel) (nx:=8) (yyc rfl) (RestF.step z96 (RestF.step z95 (RestF.step z94 (RestF.step z93 (RestF.step z92 (RestF.step z91 (RestF.step z90 (RestF.step z9z (RestF.step z9y (RestF.step z9x (z8e z7w)))))))))))
end Go.Proofs.YtjjkdjbbkagclaaGreatDoor
namespace Go.Proofs.YtjjkdjbbkagclaaGreatDoor
open Go Go.RowKit Ox Ox.Gl
def run6:FnZ (Rn.Laid gsT) Tryz.prog 6 (.bool true):=works05 (works04 (works03 run93 run94 run95) run55) run25
def law4{x:Int}(hx:0≤x∧x≤255){us:List (List Int)}(hu:∀ u∈us,∀ y∈u,0≤y∧y≤255){w:List Int}(hw:∀ y∈w,0≤y∧y≤255) :
  FnL (Rn.Laid gsT) Tryz.prog 4 (.acons (.val (.int .u8) x) (.acons (.val (.slice upT) us) (.acons (vU w) .anil))) (·=vB true):=
 (fn4 (gs:=gsT) (by unfold gsT;exact yyi _ yyj) run6 x hx us hu w hw).toL
end Go.Proofs.YtjjkdjbbkagclaaGreatDoor
namespace Go.Proofs.YtjjkdjbbkagclaaGreatDoor
open Go Go.RowKit Go.ChangeShapes Go.WideShapes Go.ChangeAt Ox
def own_knob:ownKnob Tryz.prog.godebug=none:=by kernel_rfl
def z3x{W:World}(h:laidMetH Tryz.prog [("math/bits.deBruijn32tab",Rows.laid_math_bits_deBruijn32tab),("math/bits.deBruijn64tab",Rows.laid_math_bits_deBruijn64tab)] W):Rn.Laid gsT (fun b=>W.heap[b]?):=by
 rw[MakeChecks.laidMetH_plain _ _ _ (by kernel_rfl)] at h;obtain⟨ps,h,_⟩:=h;intro q hq;rcases yyo.1 hq with rfl|hq
 ·exact z0r (name:= "math/bits.deBruijn32tab") (k:=.u8) (xs:=g0.2.2.2) (e:=5) (by kernel_rfl) rfl (by kernel_rfl) (by kernel_rfl) (by kernel_rfl) h yyj
 rcases yyo.1 hq with rfl|hq
 ·exact z0r (name:= "math/bits.deBruijn64tab") (k:=.u8) (xs:=g1.2.2.2) (e:=5) (by kernel_rfl) rfl (by kernel_rfl) (by kernel_rfl) (by kernel_rfl) h (yyi _ yyj)
 ·cases hq
set_option maxRecDepth 100000 in
def q1c(os:Os)(started:os.Started)(H:Type)(enc:TypeId×Value→H) :
  ReturnsInHanded {} Tryz.checked os 4 .any (fun w args=>(Rows.topExchangedColoursSpec.pre enc Tryz.prog Tryz.f4 [] false w args∧laidMetH Tryz.prog [("math/bits.deBruijn32tab",Rows.laid_math_bits_deBruijn32tab),("math/bits.deBruijn64tab",Rows.laid_math_bits_deBruijn64tab)] w)∧sizedMet enc Tryz.prog Tryz.f4 (OpenSpec.ofChange Rows.topExchangedColoursSpec) false w args)
   (Rows.topExchangedColoursSpec.post enc Tryz.prog Tryz.f4 false true false false):=by
 refine returnsInHanded_of_change_and (C:=Tryz.checked) (X:=fun w _=>laidMetH Tryz.prog [("math/bits.deBruijn32tab",Rows.laid_math_bits_deBruijn32tab),("math/bits.deBruijn64tab",Rows.laid_math_bits_deBruijn64tab)] w) (fun _ _ _ hh h=>h.of_heap hh) own_knob started (by kernel_rfl) Tryz.func4
  (ChangeSpec.witness_shaped (enc:=enc) (C:=Tryz.checked) (os:=os) (X:=fun w _=>laidMetH Tryz.prog [("math/bits.deBruijn32tab",Rows.laid_math_bits_deBruijn32tab),("math/bits.deBruijn64tab",Rows.laid_math_bits_deBruijn64tab)] w) false (World.laidAll Tryz.prog os [("math/bits.deBruijn32tab",Rows.laid_math_bits_deBruijn32tab),("math/bits.deBruijn64tab",Rows.laid_math_bits_deBruijn64tab)]) #[.int .u8 0,.slice none 0 0,.slice none 0 0] 8 (World.laidAll_os _ _ _)
   (World.shaped_of_ZipB (by kernel_rfl) (by kernel_rfl)) (by kernel_rfl) (by kernel_rfl) (by kernel_rfl)
   (by rw[MakeChecks.laidMetH_plain _ _ _ (by kernel_rfl)];exact laidMet_laidAll _ (by kernel_rfl) (by kernel_rfl))) ?_
 intro W base args ds gs before hval hW _ _ hL _;refine z74 (ts:=[.int .u8,.slice (.arr 2 (.int .u8)),.slice (.int .u8)]) (z3x hL) (fun ys hf=>law4 (x:=ys.1) (us:=ys.2.1) (w:=ys.2.2.1) hf.1 hf.2.1 hf.2.2.1) (by kernel_rfl) (by kernel_rfl) rfl (fun ds h=>?_) (by kernel_rfl) Tryz.underlying4 hval hW
 match ds,h with
 |[_,_,_],_=>exact⟨rfl,rfl,rfl⟩
def q1h:Tryz.pinned.checked.prog.funcNamed Rows.topExchangedColoursRow.func=some 4:=by kernel_rfl
def q1n:Tryz.f4.isInstance Tryz.pinned.checked.prog Rows.topExchangedColoursRow.origin Rows.topExchangedColoursRow.targs:=of_decide_eq_true (by kernel_rfl)
def q1m:Tryz.f4.isWrapper Tryz.pinned.checked.prog Rows.topExchangedColoursRow.wrapper Rows.topExchangedColoursRow.mainSum:=by unfold Func.isWrapper;first|(rw[if_pos (by decide +kernel)];kernel_rfl)|(rw[if_neg (by decide +kernel)];exact⟨rfl,rfl⟩)
def topExchangedColours_row:Rows.TopExchangedColoursSaid:=
 OpenClaim.holds_of_wide 4 Tryz.f4 rfl rfl rfl rfl rfl rfl rfl ⟨rfl,rfl,rfl,rfl,rfl⟩ rfl rfl rfl rfl rfl q1h Tryz.func4 q1i q1n q1m
  (fun os started H enc _=>q1c os started H enc)
end Go.Proofs.YtjjkdjbbkagclaaGreatDoor
