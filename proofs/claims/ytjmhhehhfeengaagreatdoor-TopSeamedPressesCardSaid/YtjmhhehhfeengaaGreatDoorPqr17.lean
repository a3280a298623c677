/- Texts of the proof of the statement that the last text proves. -/
import Derived.Test.YtjmhhehhfeengaaGreatDoorPqe
import Derived.Test.YtjmhhehhfeengaaGreatDoorRows
import Derived.Test.YtjmhhehhfeengaaGreatDoorTie
import Derived.Test.YtjmhhehhfeengaaGreatDoorCards
import Derived.ProofKit
import Derived.LaidMore
import Derived.Lay
import Derived.SevenTiedAt
import Derived.Stop.Joined
import Derived.ChangeSame
import Derived.ChangeVars
import Derived.JoinedOf
set_option linter.all false
set_option maxHeartbeats 2000000
namespace Go.Proofs.YtjmhhehhfeengaaGreatDoor
open Go Go.RowKit Go.ChangeShapes Go.WideShapes Go.ChangeAt
def q5a{a b:Bool}(h:a=true)(k:b=true):(a&&b)=true:=by rw[h,k];rfl
def q4k:(Rows.topSeamedPressesRow.wf (OpenSpec.ofChange Rows.topSeamedPressesSpec))=true:=by kernel_rfl
def q4j:(laidOutB Tryz.pinned.checked.prog)=true:=by kernel_rfl
def q4i:(mapsRowed Tryz.pinned.checked.prog)=true:=by kernel_rfl
def q4h:(Tryz.f3.params.all (Tryz.pinned.checked.prog.readableRec ·))=true:=by kernel_rfl
def q4g:(namedTie Tryz.pinned.checked.prog Rows.topSeamedPressesRow.named Rows.topSeamedPressesSpec.vars)=true:=by kernel_rfl
def q4f:((Rows.topSeamedPressesRow.stops==[]))=true:=by kernel_rfl
def q4e:((Tryz.pinned.checked.prog.stops==[]))=true:=by kernel_rfl
def q4d:((Rows.topSeamedPressesRow.knobs==[]))=true:=by kernel_rfl
def q4c:((Tryz.pinned.checked.prog.stopKnobs==[]))=true:=by kernel_rfl
def q4b:((Rows.topSeamedPressesRow.inPlace==Tryz.pinned.checked.prog.inPlace 3))=true:=by kernel_rfl
def q29:((Rows.topSeamedPressesRow.unfollowed==Tryz.pinned.checked.prog.unfollowed 3))=true:=by kernel_rfl
def q28:((Rows.topSeamedPressesRow.recurses==Tryz.pinned.checked.prog.recurses 3))=true:=by kernel_rfl
def q27:((Rows.topSeamedPressesRow.named==Tryz.pinned.checked.prog.varsNamed 3))=true:=by kernel_rfl
def q26:((Rows.topSeamedPressesRow.maps==(Tryz.f3.params.toList++Rows.topSeamedPressesSpec.plain.varTypes Tryz.pinned.checked.prog).any (Tryz.pinned.checked.prog.mapsRec ·)))=true:=by kernel_rfl
def q25:((Rows.topSeamedPressesRow.ifaces==(Tryz.f3.params.toList++Rows.topSeamedPressesSpec.plain.varTypes Tryz.pinned.checked.prog).any (Tryz.pinned.checked.prog.ifacesRec ·)))=true:=by kernel_rfl
def q24:((Rows.topSeamedPressesRow.mapsOut==Tryz.pinned.checked.prog.mapsAmong Tryz.f3.resultTypes.toList))=true:=by kernel_rfl
def q23:((Rows.topSeamedPressesRow.loops==(Tryz.f3.params.toList++Rows.topSeamedPressesSpec.plain.varTypes Tryz.pinned.checked.prog).any (Tryz.pinned.checked.prog.loopsFrom ·)))=true:=by kernel_rfl
def q22:((Rows.topSeamedPressesRow.wideKeys==(Tryz.f3.params.toList++Rows.topSeamedPressesSpec.plain.varTypes Tryz.pinned.checked.prog++Tryz.f3.resultTypes.toList).any (Tryz.pinned.checked.prog.wideKeysFrom ·)))=true:=by kernel_rfl
def q21:(Rows.topSeamedPressesSpec.vars.all (Tryz.pinned.checked.prog.varReadable ·))=true:=by kernel_rfl
def q20:(Tryz.f3.resultTypes.all (fun t=>Tryz.pinned.checked.prog.readableRec t&&decide (t<Tryz.pinned.checked.prog.types.size)))=true:=by kernel_rfl
def q2z:((Rows.topSeamedPressesRow.ifacesOut==Tryz.f3.resultTypes.toList.any (Tryz.pinned.checked.prog.ifacesRec ·)))=true:=by kernel_rfl
def q2y:((Rows.topSeamedPressesRow.loopsOut==Tryz.f3.resultTypes.toList.any (Tryz.pinned.checked.prog.loopsFrom ·)))=true:=by kernel_rfl
def q2x:((Rows.topSeamedPressesRow.plainKeys==Tryz.pinned.checked.prog.plainKeys))=true:=by kernel_rfl
def q2w:(Rows.topSeamedPressesRow.shortTexts.isNone)=true:=by kernel_rfl
def q2v:(Tryz.pinned.checked.prog.stopsHeard)=true:=by kernel_rfl
def q2u:(Tryz.pinned.checked.prog.mayEnter)=true:=by kernel_rfl
def q2t:((Rows.topSeamedPressesRow.lifted==Tryz.pinned.checked.prog.liftsFinal))=true:=by kernel_rfl
def q2s:((Tryz.pinned.checked.prog.make==some Rows.topSeamedPressesRow.make))=true:=by kernel_rfl
def q2r:((Rows.topSeamedPressesRow.kinds==(if Rows.topSeamedPressesRow.domain.isEmpty then [] else Tryz.f3.params.toList.map fun t=>match Tryz.pinned.checked.prog.underlying t with|some (.int k)=>some k|_=>none)))=true:=by kernel_rfl
def q2q:((Rows.topSeamedPressesRow.pinned==Rows.topSeamedPressesRow.pinnedBy))=true:=by kernel_rfl
def q2p:((Rows.topSeamedPressesRow.veiled==(Tryz.f3.params.toList++Rows.topSeamedPressesSpec.plain.varTypes Tryz.pinned.checked.prog++Tryz.f3.resultTypes.toList).any (Tryz.pinned.checked.prog.veiledRec ·)))=true:=by kernel_rfl
def q2o:(Rows.topSeamedPressesRow.veiledFits Tryz.pinned.checked.prog Tryz.f3.params.toList (Tryz.f3.params.toList++Rows.topSeamedPressesSpec.plain.varTypes Tryz.pinned.checked.prog++Tryz.f3.resultTypes.toList))=true:=by kernel_rfl
set_option maxRecDepth 100000 in
def q2l:joinedFacts Tryz.pinned.checked.prog 3 Tryz.f3 Rows.topSeamedPressesSpec Rows.topSeamedPressesRow=true:=(q5a (q5a (q5a (q5a (q5a (q5a (q5a (q5a (q5a (q5a (q5a (q5a (q5a (q5a (q5a (q5a (q5a (q5a (q5a (q5a (q5a (q5a (q5a (q5a (q5a (q5a (q5a (q5a (q5a (q5a (q5a q4k q4j) q4i) q4h) q4g) q4f) q4e) q4d) q4c) q4b) q29) q28) q27) q26) q25) q24) q23) q22) q21) q20) q2z) q2y) q2x) q2w) q2v) q2u) q2t) q2s) q2r) q2q) q2p) q2o)
end Go.Proofs.YtjmhhehhfeengaaGreatDoor
