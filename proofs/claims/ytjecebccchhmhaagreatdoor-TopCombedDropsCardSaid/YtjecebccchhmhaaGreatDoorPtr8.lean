/- Texts of the proof of the statement that the last text proves. -/
import Derived.Test.YtjecebccchhmhaaGreatDoorPte
import Derived.Test.YtjecebccchhmhaaGreatDoorRows
import Derived.Test.YtjecebccchhmhaaGreatDoorTie
import Derived.Test.YtjecebccchhmhaaGreatDoorCards
import Derived.ProofKit
import Derived.LaidMore
import Derived.Lay
import Derived.SevenTiedAt
import Derived.Stop.Joined
import Derived.ChangeSame
import Derived.ChangeVars
import Derived.JoinedOf
set_option linter.all false
set_option maxHeartbeats 2000000
variable{P:Go.Program}
namespace Go.Proofs.YtjecebccchhmhaaGreatDoor
open Go Go.RowKit Go.ChangeShapes Go.WideShapes Go.ChangeAt
def goes_no(h:P.funcs.any Func.goes=false)(f:FuncId):P.goes f=false:=by
 unfold Program.goes;rw[h,Bool.and_false,Bool.or_false,List.any_eq_false];intro g _;rw[Array.any_eq_false] at h;cases hg:P.funcs[g]? with
 |none=>simp
 |some fn=>obtain⟨hl,rfl⟩:=Array.getElem?_eq_some_iff.1 hg;exact h g hl
def goes_by(h:P.funcs.any Func.goes=false){c:OpenClaim}(hc:c.start=.entering):false=c.goesBy P:=by
 unfold OpenClaim.goesBy Program.goesAt Program.goesFrom;rw[hc];cases P.funcNamed c.func with
 |none=>rfl
 |some f=>show false=(P.goes f||false);rw[goes_no h,Bool.or_false]
set_option maxRecDepth 100000 in
def z9s:Tryz.pinned.checked.prog.funcs.any Func.goes=false:=by kernel_rfl
def topCombedDrops_goes:false=Rows.topCombedDropsRow.goesBy Tryz.pinned.checked.prog:=goes_by z9s rfl
end Go.Proofs.YtjecebccchhmhaaGreatDoor
