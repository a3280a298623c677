/- Texts of the proof of the statement that the last text proves. -/
import Derived.Test.YtjecebccchhmhaaGreatDoorPte
import Derived.Test.YtjecebccchhmhaaGreatDoorRows
import Derived.Test.YtjecebccchhmhaaGreatDoorTie
import Derived.Test.YtjecebccchhmhaaGreatDoorCards
import Derived.ProofKit
import Derived.LaidMore
import Derived.Lay
import Derived.SevenTiedAt
import Derived.Stop.Joined
import Derived.ChangeSame
import Derived.ChangeVars
import Derived.JoinedOf
set_option linter.all false
set_option maxHeartbeats 2000000
namespace Go.Proofs.YtjecebccchhmhaaGreatDoor
open Go Go.RowKit Go.ChangeShapes Go.WideShapes Go.ChangeAt
def q47{a b:Bool}(h:a=true)(k:b=true):(a&&b)=true:=by rw[h,k];rfl
def q5k:(Rows.topCombedDropsRow.wf (OpenSpec.ofChange Rows.topCombedDropsSpec))=true:=by kernel_rfl
def q5j:(laidOutB Tryz.pinned.checked.prog)=true:=by kernel_rfl
def q5i:(mapsRowed Tryz.pinned.checked.prog)=true:=by kernel_rfl
def q5h:(Tryz.f3.params.all (Tryz.pinned.checked.prog.readableRec ·))=true:=by kernel_rfl
def q5g:(namedTie Tryz.pinned.checked.prog Rows.topCombedDropsRow.named Rows.topCombedDropsSpec.vars)=true:=by kernel_rfl
def q5f:((Rows.topCombedDropsRow.stops==[]))=true:=by kernel_rfl
def q5e:((Tryz.pinned.checked.prog.stops==[]))=true:=by kernel_rfl
def q5d:((Rows.topCombedDropsRow.knobs==[]))=true:=by kernel_rfl
def q5c:((Tryz.pinned.checked.prog.stopKnobs==[]))=true:=by kernel_rfl
def q5b:((Rows.topCombedDropsRow.inPlace==Tryz.pinned.checked.prog.inPlace 3))=true:=by kernel_rfl
def q4x:((Rows.topCombedDropsRow.unfollowed==Tryz.pinned.checked.prog.unfollowed 3))=true:=by kernel_rfl
def q4w:((Rows.topCombedDropsRow.recurses==Tryz.pinned.checked.prog.recurses 3))=true:=by kernel_rfl
def q4v:((Rows.topCombedDropsRow.named==Tryz.pinned.checked.prog.varsNamed 3))=true:=by kernel_rfl
def q4u:((Rows.topCombedDropsRow.maps==(Tryz.f3.params.toList++Rows.topCombedDropsSpec.plain.varTypes Tryz.pinned.checked.prog).any (Tryz.pinned.checked.prog.mapsRec ·)))=true:=by kernel_rfl
def q4t:((Rows.topCombedDropsRow.ifaces==(Tryz.f3.params.toList++Rows.topCombedDropsSpec.plain.varTypes Tryz.pinned.checked.prog).any (Tryz.pinned.checked.prog.ifacesRec ·)))=true:=by kernel_rfl
def q4s:((Rows.topCombedDropsRow.mapsOut==Tryz.pinned.checked.prog.mapsAmong Tryz.f3.resultTypes.toList))=true:=by kernel_rfl
def q4r:((Rows.topCombedDropsRow.loops==(Tryz.f3.params.toList++Rows.topCombedDropsSpec.plain.varTypes Tryz.pinned.checked.prog).any (Tryz.pinned.checked.prog.loopsFrom ·)))=true:=by kernel_rfl
def q4q:((Rows.topCombedDropsRow.wideKeys==(Tryz.f3.params.toList++Rows.topCombedDropsSpec.plain.varTypes Tryz.pinned.checked.prog++Tryz.f3.resultTypes.toList).any (Tryz.pinned.checked.prog.wideKeysFrom ·)))=true:=by kernel_rfl
def q4p:(Rows.topCombedDropsSpec.vars.all (Tryz.pinned.checked.prog.varReadable ·))=true:=by kernel_rfl
def q4o:(Tryz.f3.resultTypes.all (fun t=>Tryz.pinned.checked.prog.readableRec t&&decide (t<Tryz.pinned.checked.prog.types.size)))=true:=by kernel_rfl
def q4n:((Rows.topCombedDropsRow.ifacesOut==Tryz.f3.resultTypes.toList.any (Tryz.pinned.checked.prog.ifacesRec ·)))=true:=by kernel_rfl
def q4m:((Rows.topCombedDropsRow.loopsOut==Tryz.f3.resultTypes.toList.any (Tryz.pinned.checked.prog.loopsFrom ·)))=true:=by kernel_rfl
def q4l:((Rows.topCombedDropsRow.plainKeys==Tryz.pinned.checked.prog.plainKeys))=true:=by kernel_rfl
def q4k:(Rows.topCombedDropsRow.shortTexts.isNone)=true:=by kernel_rfl
def q4j:(Tryz.pinned.checked.prog.stopsHeard)=true:=by kernel_rfl
def q4i:(Tryz.pinned.checked.prog.mayEnter)=true:=by kernel_rfl
def q4h:((Rows.topCombedDropsRow.lifted==Tryz.pinned.checked.prog.liftsFinal))=true:=by kernel_rfl
def q4g:((Tryz.pinned.checked.prog.make==some Rows.topCombedDropsRow.make))=true:=by kernel_rfl
def q4f:((Rows.topCombedDropsRow.kinds==(if Rows.topCombedDropsRow.domain.isEmpty then [] else Tryz.f3.params.toList.map fun t=>match Tryz.pinned.checked.prog.underlying t with|some (.int k)=>some k|_=>none)))=true:=by kernel_rfl
def q4e:((Rows.topCombedDropsRow.pinned==Rows.topCombedDropsRow.pinnedBy))=true:=by kernel_rfl
def q4d:((Rows.topCombedDropsRow.veiled==(Tryz.f3.params.toList++Rows.topCombedDropsSpec.plain.varTypes Tryz.pinned.checked.prog++Tryz.f3.resultTypes.toList).any (Tryz.pinned.checked.prog.veiledRec ·)))=true:=by kernel_rfl
def q4c:(Rows.topCombedDropsRow.veiledFits Tryz.pinned.checked.prog Tryz.f3.params.toList (Tryz.f3.params.toList++Rows.topCombedDropsSpec.plain.varTypes Tryz.pinned.checked.prog++Tryz.f3.resultTypes.toList))=true:=by kernel_rfl
set_option maxRecDepth 100000 in
def q34:joinedFacts Tryz.pinned.checked.prog 3 Tryz.f3 Rows.topCombedDropsSpec Rows.topCombedDropsRow=true:=(q47 (q47 (q47 (q47 (q47 (q47 (q47 (q47 (q47 (q47 (q47 (q47 (q47 (q47 (q47 (q47 (q47 (q47 (q47 (q47 (q47 (q47 (q47 (q47 (q47 (q47 (q47 (q47 (q47 (q47 (q47 q5k q5j) q5i) q5h) q5g) q5f) q5e) q5d) q5c) q5b) q4x) q4w) q4v) q4u) q4t) q4s) q4r) q4q) q4p) q4o) q4n) q4m) q4l) q4k) q4j) q4i) q4h) q4g) q4f) q4e) q4d) q4c)
end Go.Proofs.YtjecebccchhmhaaGreatDoor
