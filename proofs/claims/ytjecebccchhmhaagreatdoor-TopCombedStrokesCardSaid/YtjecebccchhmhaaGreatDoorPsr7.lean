/- Texts of the proof of the statement that the last text proves. -/
import Derived.Test.YtjecebccchhmhaaGreatDoorPse
import Derived.Test.YtjecebccchhmhaaGreatDoorRows
import Derived.Test.YtjecebccchhmhaaGreatDoorTie
import Derived.Test.YtjecebccchhmhaaGreatDoorCards
import Derived.ProofKit
import Derived.LaidMore
import Derived.Lay
import Derived.SevenTiedAt
import Derived.Stop.Joined
import Derived.ChangeSame
import Derived.ChangeVars
import Derived.JoinedOf
set_option linter.all false
set_option maxHeartbeats 2000000
namespace Go.Proofs.YtjecebccchhmhaaGreatDoor
open Go Go.RowKit Go.ChangeShapes Go.WideShapes Go.ChangeAt
def q39{a b:Bool}(h:a=true)(k:b=true):(a&&b)=true:=by rw[h,k];rfl
def q3r:(Rows.topCombedStrokesRow.wf (OpenSpec.ofChange Rows.topCombedStrokesSpec))=true:=by kernel_rfl
def q3q:(laidOutB Tryz.pinned.checked.prog)=true:=by kernel_rfl
def q3p:(mapsRowed Tryz.pinned.checked.prog)=true:=by kernel_rfl
def q3o:(Tryz.f4.params.all (Tryz.pinned.checked.prog.readableRec ·))=true:=by kernel_rfl
def q3n:(namedTie Tryz.pinned.checked.prog Rows.topCombedStrokesRow.named Rows.topCombedStrokesSpec.vars)=true:=by kernel_rfl
def q3m:((Rows.topCombedStrokesRow.stops==[]))=true:=by kernel_rfl
def q3l:((Tryz.pinned.checked.prog.stops==[]))=true:=by kernel_rfl
def q3k:((Rows.topCombedStrokesRow.knobs==[]))=true:=by kernel_rfl
def q3j:((Tryz.pinned.checked.prog.stopKnobs==[]))=true:=by kernel_rfl
def q3i:((Rows.topCombedStrokesRow.inPlace==Tryz.pinned.checked.prog.inPlace 4))=true:=by kernel_rfl
def q2o:((Rows.topCombedStrokesRow.unfollowed==Tryz.pinned.checked.prog.unfollowed 4))=true:=by kernel_rfl
def q2n:((Rows.topCombedStrokesRow.recurses==Tryz.pinned.checked.prog.recurses 4))=true:=by kernel_rfl
def q2m:((Rows.topCombedStrokesRow.named==Tryz.pinned.checked.prog.varsNamed 4))=true:=by kernel_rfl
def q2l:((Rows.topCombedStrokesRow.maps==(Tryz.f4.params.toList++Rows.topCombedStrokesSpec.plain.varTypes Tryz.pinned.checked.prog).any (Tryz.pinned.checked.prog.mapsRec ·)))=true:=by kernel_rfl
def q2k:((Rows.topCombedStrokesRow.ifaces==(Tryz.f4.params.toList++Rows.topCombedStrokesSpec.plain.varTypes Tryz.pinned.checked.prog).any (Tryz.pinned.checked.prog.ifacesRec ·)))=true:=by kernel_rfl
def q2j:((Rows.topCombedStrokesRow.mapsOut==Tryz.pinned.checked.prog.mapsAmong Tryz.f4.resultTypes.toList))=true:=by kernel_rfl
def q2i:((Rows.topCombedStrokesRow.loops==(Tryz.f4.params.toList++Rows.topCombedStrokesSpec.plain.varTypes Tryz.pinned.checked.prog).any (Tryz.pinned.checked.prog.loopsFrom ·)))=true:=by kernel_rfl
def q2h:((Rows.topCombedStrokesRow.wideKeys==(Tryz.f4.params.toList++Rows.topCombedStrokesSpec.plain.varTypes Tryz.pinned.checked.prog++Tryz.f4.resultTypes.toList).any (Tryz.pinned.checked.prog.wideKeysFrom ·)))=true:=by kernel_rfl
def q2g:(Rows.topCombedStrokesSpec.vars.all (Tryz.pinned.checked.prog.varReadable ·))=true:=by kernel_rfl
def q2f:(Tryz.f4.resultTypes.all (fun t=>Tryz.pinned.checked.prog.readableRec t&&decide (t<Tryz.pinned.checked.prog.types.size)))=true:=by kernel_rfl
def q2e:((Rows.topCombedStrokesRow.ifacesOut==Tryz.f4.resultTypes.toList.any (Tryz.pinned.checked.prog.ifacesRec ·)))=true:=by kernel_rfl
def q2d:((Rows.topCombedStrokesRow.loopsOut==Tryz.f4.resultTypes.toList.any (Tryz.pinned.checked.prog.loopsFrom ·)))=true:=by kernel_rfl
def q2c:((Rows.topCombedStrokesRow.plainKeys==Tryz.pinned.checked.prog.plainKeys))=true:=by kernel_rfl
def q2b:(Rows.topCombedStrokesRow.shortTexts.isNone)=true:=by kernel_rfl
def q2a:(Tryz.pinned.checked.prog.stopsHeard)=true:=by kernel_rfl
def q19:(Tryz.pinned.checked.prog.mayEnter)=true:=by kernel_rfl
def q18:((Rows.topCombedStrokesRow.lifted==Tryz.pinned.checked.prog.liftsFinal))=true:=by kernel_rfl
def q17:((Tryz.pinned.checked.prog.make==some Rows.topCombedStrokesRow.make))=true:=by kernel_rfl
def q16:((Rows.topCombedStrokesRow.kinds==(if Rows.topCombedStrokesRow.domain.isEmpty then [] else Tryz.f4.params.toList.map fun t=>match Tryz.pinned.checked.prog.underlying t with|some (.int k)=>some k|_=>none)))=true:=by kernel_rfl
def q15:((Rows.topCombedStrokesRow.pinned==Rows.topCombedStrokesRow.pinnedBy))=true:=by kernel_rfl
def q14:((Rows.topCombedStrokesRow.veiled==(Tryz.f4.params.toList++Rows.topCombedStrokesSpec.plain.varTypes Tryz.pinned.checked.prog++Tryz.f4.resultTypes.toList).any (Tryz.pinned.checked.prog.veiledRec ·)))=true:=by kernel_rfl
def q13:(Rows.topCombedStrokesRow.veiledFits Tryz.pinned.checked.prog Tryz.f4.params.toList (Tryz.f4.params.toList++Rows.topCombedStrokesSpec.plain.varTypes Tryz.pinned.checked.prog++Tryz.f4.resultTypes.toList))=true:=by kernel_rfl
set_option maxRecDepth 100000 in
def q10:joinedFacts Tryz.pinned.checked.prog 4 Tryz.f4 Rows.topCombedStrokesSpec Rows.topCombedStrokesRow=true:=(q39 (q39 (q39 (q39 (q39 (q39 (q39 (q39 (q39 (q39 (q39 (q39 (q39 (q39 (q39 (q39 (q39 (q39 (q39 (q39 (q39 (q39 (q39 (q39 (q39 (q39 (q39 (q39 (q39 (q39 (q39 q3r q3q) q3p) q3o) q3n) q3m) q3l) q3k) q3j) q3i) q2o) q2n) q2m) q2l) q2k) q2j) q2i) q2h) q2g) q2f) q2e) q2d) q2c) q2b) q2a) q19) q18) q17) q16) q15) q14) q13)
end Go.Proofs.YtjecebccchhmhaaGreatDoor
