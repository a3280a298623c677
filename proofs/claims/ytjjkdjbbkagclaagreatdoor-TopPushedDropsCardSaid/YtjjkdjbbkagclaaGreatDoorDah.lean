/- Texts of the proof of the statement that the last text proves. -/
import Derived.Test.YtjjkdjbbkagclaaGreatDoorDag
import Derived.Test.YtjjkdjbbkagclaaGreatDoorDar0
import Derived.Test.YtjjkdjbbkagclaaGreatDoorDar1
import Derived.Test.YtjjkdjbbkagclaaGreatDoorDar2
import Derived.Test.YtjjkdjbbkagclaaGreatDoorDar3
import Derived.Test.YtjjkdjbbkagclaaGreatDoorDar4
import Derived.Test.YtjjkdjbbkagclaaGreatDoorDar5
import Derived.Test.YtjjkdjbbkagclaaGreatDoorDar6
import Derived.Test.YtjjkdjbbkagclaaGreatDoorDar7
import Derived.Test.YtjjkdjbbkagclaaGreatDoorDar8
import Derived.Test.YtjjkdjbbkagclaaGreatDoorDar9
import Derived.Test.YtjjkdjbbkagclaaGreatDoorDar10
import Derived.Test.YtjjkdjbbkagclaaGreatDoorDar11
import Derived.Test.YtjjkdjbbkagclaaGreatDoorDar12
import Derived.Test.YtjjkdjbbkagclaaGreatDoorDar13
import Derived.Test.YtjjkdjbbkagclaaGreatDoorDar14
import Derived.Test.YtjjkdjbbkagclaaGreatDoorDar15
import Derived.Test.YtjjkdjbbkagclaaGreatDoorRows
import Derived.Test.YtjjkdjbbkagclaaGreatDoorTie
import Derived.Test.YtjjkdjbbkagclaaGreatDoorCards
import Derived.ProofKit
import Derived.LaidMore
import Derived.Lay
import Derived.SevenTiedAt
import Derived.Stop.Joined
import Derived.ChangeSame
import Derived.ChangeVars
import Derived.JoinedOf
set_option linter.all false
set_option maxHeartbeats 2000000
namespace Go.Proofs.YtjjkdjbbkagclaaGreatDoor
open Go Go.RowKit Ox Ox.Rn
def run95:FnZ (Laid gsT) Tryz.prog 95 (.bool true):=z5e xok (by decide +kernel) (nx:=8) (yyd rfl) (g7 z6l (g7 z6k (g7 z6j (g7 z6i (g7 z6h (g7 z6g (g7 z6f (g7 z6e (g7 z6d (g7 z6c (z43 z4m)))))))))))
end Go.Proofs.YtjjkdjbbkagclaaGreatDoor
namespace Go.Proofs.YtjjkdjbbkagclaaGreatDoor
open Go Go.RowKit Ox Ox.Gl
def run6d:FnZ (Rn.Laid gsT) Tryz.prog 6 (.bool true):=works05 (works04 (works03 run93 run94 run95) run55) run25
def law3{l:glT.den}{one two:List Int}(h1:∀ y∈one,0≤y∧y≤255)(h2:∀ y∈two,0≤y∧y≤255) :
  FnL (Rn.Laid gsT) Tryz.prog 3 (.acons (.val glT l) (.acons (vU one) (.acons (vU two) .anil))) (·=vB true):=by
 obtain⟨d,cs,ps,_⟩:=l;exact(fn3 (gs:=gsT) run6d d cs ps one two h1 h2).toL
end Go.Proofs.YtjjkdjbbkagclaaGreatDoor
namespace Go.Proofs.YtjjkdjbbkagclaaGreatDoor
open Go Go.RowKit Go.ChangeShapes Go.WideShapes Go.ChangeAt Ox
def own_knob:ownKnob Tryz.prog.godebug=none:=by kernel_rfl
def z1i{W:World}(h:laidMetH Tryz.prog [("math/bits.deBruijn32tab",Rows.laid_math_bits_deBruijn32tab),("math/bits.deBruijn64tab",Rows.laid_math_bits_deBruijn64tab)] W):Rn.Laid gsT (fun b=>W.heap[b]?):=by
 rw[MakeChecks.laidMetH_plain _ _ _ (by kernel_rfl)] at h;obtain⟨ps,h,_⟩:=h;intro q hq;rcases yyn.1 hq with rfl|hq
 ·exact q8x (name:= "math/bits.deBruijn32tab") (k:=.u8) (xs:=g0.2.2.2) (e:=5) (by kernel_rfl) rfl (by kernel_rfl) (by kernel_rfl) (by kernel_rfl) h yyj
 rcases yyn.1 hq with rfl|hq
 ·exact q8x (name:= "math/bits.deBruijn64tab") (k:=.u8) (xs:=g1.2.2.2) (e:=5) (by kernel_rfl) rfl (by kernel_rfl) (by kernel_rfl) (by kernel_rfl) h (yyi _ yyj)
 ·cases hq
set_option maxRecDepth 100000 in
def q1v(os:Os)(started:os.Started)(H:Type)(enc:TypeId×Value→H) :
  ReturnsInHanded {} Tryz.checked os 3 .any (fun w args=>(Rows.topPushedDropsSpec.pre enc Tryz.prog Tryz.f3 [] false w args∧laidMetH Tryz.prog [("math/bits.deBruijn32tab",Rows.laid_math_bits_deBruijn32tab),("math/bits.deBruijn64tab",Rows.laid_math_bits_deBruijn64tab)] w)∧sizedMet enc Tryz.prog Tryz.f3 (OpenSpec.ofChange Rows.topPushedDropsSpec) false w args)
   (Rows.topPushedDropsSpec.post enc Tryz.prog Tryz.f3 false true false false):=by
 refine returnsInHanded_of_change_and (C:=Tryz.checked) (X:=fun w _=>laidMetH Tryz.prog [("math/bits.deBruijn32tab",Rows.laid_math_bits_deBruijn32tab),("math/bits.deBruijn64tab",Rows.laid_math_bits_deBruijn64tab)] w) (fun _ _ _ hh h=>h.of_heap hh) own_knob started (by kernel_rfl) Tryz.func3
  (ChangeSpec.witness_shaped (enc:=enc) (C:=Tryz.checked) (os:=os) (X:=fun w _=>laidMetH Tryz.prog [("math/bits.deBruijn32tab",Rows.laid_math_bits_deBruijn32tab),("math/bits.deBruijn64tab",Rows.laid_math_bits_deBruijn64tab)] w) false (World.laidAll Tryz.prog os [("math/bits.deBruijn32tab",Rows.laid_math_bits_deBruijn32tab),("math/bits.deBruijn64tab",Rows.laid_math_bits_deBruijn64tab)]) #[.agg #[.int .i64 0,.slice none 0 0,.slice none 0 0],.slice none 0 0,.slice none 0 0] 8 (World.laidAll_os _ _ _)
   (World.shaped_of_ZipB (by kernel_rfl) (by kernel_rfl)) (by kernel_rfl) (by kernel_rfl) (by kernel_rfl)
   (by rw[MakeChecks.laidMetH_plain _ _ _ (by kernel_rfl)];exact laidMet_laidAll _ (by kernel_rfl) (by kernel_rfl))) ?_
 intro W base args ds gs before hval hW _ _ hL _;refine z4s (ts:=[glT,.slice (.int .u8),.slice (.int .u8)]) (z1i hL) (fun ys hf=>law3 (l:=ys.1) (one:=ys.2.1) (two:=ys.2.2.1) hf.2.1 hf.2.2.1) (by kernel_rfl) (by kernel_rfl) rfl (fun ds h=>?_) (by kernel_rfl) Tryz.underlying4 hval hW
 match ds,h with
 |[_,_,_],_=>exact⟨rfl,rfl,rfl⟩
def q2j:Tryz.pinned.checked.prog.funcNamed Rows.topPushedDropsRow.func=some 3:=by kernel_rfl
def q2o:Tryz.f3.isInstance Tryz.pinned.checked.prog Rows.topPushedDropsRow.origin Rows.topPushedDropsRow.targs:=of_decide_eq_true (by kernel_rfl)
def q2n:Tryz.f3.isWrapper Tryz.pinned.checked.prog Rows.topPushedDropsRow.wrapper Rows.topPushedDropsRow.mainSum:=by unfold Func.isWrapper;first|(rw[if_pos (by decide +kernel)];kernel_rfl)|(rw[if_neg (by decide +kernel)];exact⟨rfl,rfl⟩)
def topPushedDrops_row:Rows.TopPushedDropsSaid:=
 OpenClaim.holds_of_wide 3 Tryz.f3 rfl rfl rfl rfl rfl rfl rfl ⟨rfl,rfl,rfl,rfl,rfl⟩ rfl rfl rfl rfl rfl q2j Tryz.func3 q2k q2o q2n
  (fun os started H enc _=>q1v os started H enc)
end Go.Proofs.YtjjkdjbbkagclaaGreatDoor
