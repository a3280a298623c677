/- Texts of the proof of the statement that the last text proves. -/
import Derived.Test.YtcijjbccigbflaaGreatDoorPre
import Derived.Test.YtcijjbccigbflaaGreatDoorRows
import Derived.Test.YtcijjbccigbflaaGreatDoorTie
import Derived.Test.YtcijjbccigbflaaGreatDoorCards
import Derived.ProofKit
import Derived.LaidMore
import Derived.Lay
import Derived.SevenTiedAt
import Derived.Stop.Joined
import Derived.ChangeSame
import Derived.ChangeVars
import Derived.JoinedOf
set_option linter.all false
set_option maxHeartbeats 2000000
namespace Go.Proofs.YtcijjbccigbflaaGreatDoor
open Go Go.RowKit Go.ChangeShapes Go.WideShapes Go.ChangeAt
def q49{a b:Bool}(h:a=true)(k:b=true):(a&&b)=true:=by rw[h,k];rfl
def q4t:(Rows.topGalledPressesRow.wf (OpenSpec.ofChange Rows.topGalledPressesSpec))=true:=by kernel_rfl
def q4s:(laidOutB Tryz.pinned.checked.prog)=true:=by kernel_rfl
def q4r:(mapsRowed Tryz.pinned.checked.prog)=true:=by kernel_rfl
def q4q:(Tryz.f3.params.all (Tryz.pinned.checked.prog.readableRec ·))=true:=by kernel_rfl
def q4p:(namedTie Tryz.pinned.checked.prog Rows.topGalledPressesRow.named Rows.topGalledPressesSpec.vars)=true:=by kernel_rfl
def q4o:((Rows.topGalledPressesRow.stops==[]))=true:=by kernel_rfl
def q4n:((Tryz.pinned.checked.prog.stops==[]))=true:=by kernel_rfl
def q4m:((Rows.topGalledPressesRow.knobs==[]))=true:=by kernel_rfl
def q4l:((Tryz.pinned.checked.prog.stopKnobs==[]))=true:=by kernel_rfl
def q4k:((Rows.topGalledPressesRow.inPlace==Tryz.pinned.checked.prog.inPlace 3))=true:=by kernel_rfl
def q3g:((Rows.topGalledPressesRow.unfollowed==Tryz.pinned.checked.prog.unfollowed 3))=true:=by kernel_rfl
def q3f:((Rows.topGalledPressesRow.recurses==Tryz.pinned.checked.prog.recurses 3))=true:=by kernel_rfl
def q3e:((Rows.topGalledPressesRow.named==Tryz.pinned.checked.prog.varsNamed 3))=true:=by kernel_rfl
def q3d:((Rows.topGalledPressesRow.maps==(Tryz.f3.params.toList++Rows.topGalledPressesSpec.plain.varTypes Tryz.pinned.checked.prog).any (Tryz.pinned.checked.prog.mapsRec ·)))=true:=by kernel_rfl
def q3c:((Rows.topGalledPressesRow.ifaces==(Tryz.f3.params.toList++Rows.topGalledPressesSpec.plain.varTypes Tryz.pinned.checked.prog).any (Tryz.pinned.checked.prog.ifacesRec ·)))=true:=by kernel_rfl
def q3b:((Rows.topGalledPressesRow.mapsOut==Tryz.pinned.checked.prog.mapsAmong Tryz.f3.resultTypes.toList))=true:=by kernel_rfl
def q3a:((Rows.topGalledPressesRow.loops==(Tryz.f3.params.toList++Rows.topGalledPressesSpec.plain.varTypes Tryz.pinned.checked.prog).any (Tryz.pinned.checked.prog.loopsFrom ·)))=true:=by kernel_rfl
def q29:((Rows.topGalledPressesRow.wideKeys==(Tryz.f3.params.toList++Rows.topGalledPressesSpec.plain.varTypes Tryz.pinned.checked.prog++Tryz.f3.resultTypes.toList).any (Tryz.pinned.checked.prog.wideKeysFrom ·)))=true:=by kernel_rfl
def q28:(Rows.topGalledPressesSpec.vars.all (Tryz.pinned.checked.prog.varReadable ·))=true:=by kernel_rfl
def q27:(Tryz.f3.resultTypes.all (fun t=>Tryz.pinned.checked.prog.readableRec t&&decide (t<Tryz.pinned.checked.prog.types.size)))=true:=by kernel_rfl
def q26:((Rows.topGalledPressesRow.ifacesOut==Tryz.f3.resultTypes.toList.any (Tryz.pinned.checked.prog.ifacesRec ·)))=true:=by kernel_rfl
def q25:((Rows.topGalledPressesRow.loopsOut==Tryz.f3.resultTypes.toList.any (Tryz.pinned.checked.prog.loopsFrom ·)))=true:=by kernel_rfl
def q24:((Rows.topGalledPressesRow.plainKeys==Tryz.pinned.checked.prog.plainKeys))=true:=by kernel_rfl
def q23:(Rows.topGalledPressesRow.shortTexts.isNone)=true:=by kernel_rfl
def q22:(Tryz.pinned.checked.prog.stopsHeard)=true:=by kernel_rfl
def q21:(Tryz.pinned.checked.prog.mayEnter)=true:=by kernel_rfl
def q20:((Rows.topGalledPressesRow.lifted==Tryz.pinned.checked.prog.liftsFinal))=true:=by kernel_rfl
def q2z:((Tryz.pinned.checked.prog.make==some Rows.topGalledPressesRow.make))=true:=by kernel_rfl
def q2y:((Rows.topGalledPressesRow.kinds==(if Rows.topGalledPressesRow.domain.isEmpty then [] else Tryz.f3.params.toList.map fun t=>match Tryz.pinned.checked.prog.underlying t with|some (.int k)=>some k|_=>none)))=true:=by kernel_rfl
def q2x:((Rows.topGalledPressesRow.pinned==Rows.topGalledPressesRow.pinnedBy))=true:=by kernel_rfl
def q2w:((Rows.topGalledPressesRow.veiled==(Tryz.f3.params.toList++Rows.topGalledPressesSpec.plain.varTypes Tryz.pinned.checked.prog++Tryz.f3.resultTypes.toList).any (Tryz.pinned.checked.prog.veiledRec ·)))=true:=by kernel_rfl
def q2v:(Rows.topGalledPressesRow.veiledFits Tryz.pinned.checked.prog Tryz.f3.params.toList (Tryz.f3.params.toList++Rows.topGalledPressesSpec.plain.varTypes Tryz.pinned.checked.prog++Tryz.f3.resultTypes.toList))=true:=by kernel_rfl
set_option maxRecDepth 100000 in
def q2s:joinedFacts Tryz.pinned.checked.prog 3 Tryz.f3 Rows.topGalledPressesSpec Rows.topGalledPressesRow=true:=(q49 (q49 (q49 (q49 (q49 (q49 (q49 (q49 (q49 (q49 (q49 (q49 (q49 (q49 (q49 (q49 (q49 (q49 (q49 (q49 (q49 (q49 (q49 (q49 (q49 (q49 (q49 (q49 (q49 (q49 (q49 q4t q4s) q4r) q4q) q4p) q4o) q4n) q4m) q4l) q4k) q3g) q3f) q3e) q3d) q3c) q3b) q3a) q29) q28) q27) q26) q25) q24) q23) q22) q21) q20) q2z) q2y) q2x) q2w) q2v)
end Go.Proofs.YtcijjbccigbflaaGreatDoor
