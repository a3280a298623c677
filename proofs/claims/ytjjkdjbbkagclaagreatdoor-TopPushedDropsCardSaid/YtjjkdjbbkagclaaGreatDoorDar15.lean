/- Texts of the proof of the statement that the last text proves. -/
import Derived.Test.YtjjkdjbbkagclaaGreatDoorDae
import Derived.Test.YtjjkdjbbkagclaaGreatDoorRows
import Derived.Test.YtjjkdjbbkagclaaGreatDoorTie
import Derived.Test.YtjjkdjbbkagclaaGreatDoorCards
import Derived.ProofKit
import Derived.LaidMore
import Derived.Lay
import Derived.SevenTiedAt
import Derived.Stop.Joined
import Derived.ChangeSame
import Derived.ChangeVars
import Derived.JoinedOf
set_option linter.all false
set_option maxHeartbeats 2000000
namespace Go.Proofs.YtjjkdjbbkagclaaGreatDoor
open Go Go.RowKit Go.ChangeShapes Go.WideShapes Go.ChangeAt
def q3o{a b:Bool}(h:a=true)(k:b=true):(a&&b)=true:=by rw[h,k];rfl
def q31:(Rows.topPushedDropsRow.wf (OpenSpec.ofChange Rows.topPushedDropsSpec))=true:=by kernel_rfl
def q30:(laidOutB Tryz.pinned.checked.prog)=true:=by kernel_rfl
def q3z:(mapsRowed Tryz.pinned.checked.prog)=true:=by kernel_rfl
def q3y:(Tryz.f3.params.all (Tryz.pinned.checked.prog.readableRec ·))=true:=by kernel_rfl
def q3x:(namedTie Tryz.pinned.checked.prog Rows.topPushedDropsRow.named Rows.topPushedDropsSpec.vars)=true:=by kernel_rfl
def q3w:((Rows.topPushedDropsRow.stops==[]))=true:=by kernel_rfl
def q3v:((Tryz.pinned.checked.prog.stops==[]))=true:=by kernel_rfl
def q3u:((Rows.topPushedDropsRow.knobs==[]))=true:=by kernel_rfl
def q3t:((Tryz.pinned.checked.prog.stopKnobs==[]))=true:=by kernel_rfl
def q3s:((Rows.topPushedDropsRow.inPlace==Tryz.pinned.checked.prog.inPlace 3))=true:=by kernel_rfl
def q3a:((Rows.topPushedDropsRow.unfollowed==Tryz.pinned.checked.prog.unfollowed 3))=true:=by kernel_rfl
def q29:((Rows.topPushedDropsRow.recurses==Tryz.pinned.checked.prog.recurses 3))=true:=by kernel_rfl
def q28:((Rows.topPushedDropsRow.named==Tryz.pinned.checked.prog.varsNamed 3))=true:=by kernel_rfl
def q27:((Rows.topPushedDropsRow.maps==(Tryz.f3.params.toList++Rows.topPushedDropsSpec.plain.varTypes Tryz.pinned.checked.prog).any (Tryz.pinned.checked.prog.mapsRec ·)))=true:=by kernel_rfl
def q26:((Rows.topPushedDropsRow.ifaces==(Tryz.f3.params.toList++Rows.topPushedDropsSpec.plain.varTypes Tryz.pinned.checked.prog).any (Tryz.pinned.checked.prog.ifacesRec ·)))=true:=by kernel_rfl
def q25:((Rows.topPushedDropsRow.mapsOut==Tryz.pinned.checked.prog.mapsAmong Tryz.f3.resultTypes.toList))=true:=by kernel_rfl
def q24:((Rows.topPushedDropsRow.loops==(Tryz.f3.params.toList++Rows.topPushedDropsSpec.plain.varTypes Tryz.pinned.checked.prog).any (Tryz.pinned.checked.prog.loopsFrom ·)))=true:=by kernel_rfl
def q23:((Rows.topPushedDropsRow.wideKeys==(Tryz.f3.params.toList++Rows.topPushedDropsSpec.plain.varTypes Tryz.pinned.checked.prog++Tryz.f3.resultTypes.toList).any (Tryz.pinned.checked.prog.wideKeysFrom ·)))=true:=by kernel_rfl
def q22:(Rows.topPushedDropsSpec.vars.all (Tryz.pinned.checked.prog.varReadable ·))=true:=by kernel_rfl
def q21:(Tryz.f3.resultTypes.all (fun t=>Tryz.pinned.checked.prog.readableRec t&&decide (t<Tryz.pinned.checked.prog.types.size)))=true:=by kernel_rfl
def q20:((Rows.topPushedDropsRow.ifacesOut==Tryz.f3.resultTypes.toList.any (Tryz.pinned.checked.prog.ifacesRec ·)))=true:=by kernel_rfl
def q2z:((Rows.topPushedDropsRow.loopsOut==Tryz.f3.resultTypes.toList.any (Tryz.pinned.checked.prog.loopsFrom ·)))=true:=by kernel_rfl
def q2y:((Rows.topPushedDropsRow.plainKeys==Tryz.pinned.checked.prog.plainKeys))=true:=by kernel_rfl
def q2x:(Rows.topPushedDropsRow.shortTexts.isNone)=true:=by kernel_rfl
def q2w:(Tryz.pinned.checked.prog.stopsHeard)=true:=by kernel_rfl
def q2v:(Tryz.pinned.checked.prog.mayEnter)=true:=by kernel_rfl
def q2u:((Rows.topPushedDropsRow.lifted==Tryz.pinned.checked.prog.liftsFinal))=true:=by kernel_rfl
def q2t:((Tryz.pinned.checked.prog.make==some Rows.topPushedDropsRow.make))=true:=by kernel_rfl
def q2s:((Rows.topPushedDropsRow.kinds==(if Rows.topPushedDropsRow.domain.isEmpty then [] else Tryz.f3.params.toList.map fun t=>match Tryz.pinned.checked.prog.underlying t with|some (.int k)=>some k|_=>none)))=true:=by kernel_rfl
def q2r:((Rows.topPushedDropsRow.pinned==Rows.topPushedDropsRow.pinnedBy))=true:=by kernel_rfl
def q2q:((Rows.topPushedDropsRow.veiled==(Tryz.f3.params.toList++Rows.topPushedDropsSpec.plain.varTypes Tryz.pinned.checked.prog++Tryz.f3.resultTypes.toList).any (Tryz.pinned.checked.prog.veiledRec ·)))=true:=by kernel_rfl
def q2p:(Rows.topPushedDropsRow.veiledFits Tryz.pinned.checked.prog Tryz.f3.params.toList (Tryz.f3.params.toList++Rows.topPushedDropsSpec.plain.varTypes Tryz.pinned.checked.prog++Tryz.f3.resultTypes.toList))=true:=by kernel_rfl
set_option maxRecDepth 100000 in
def q2k:joinedFacts Tryz.pinned.checked.prog 3 Tryz.f3 Rows.topPushedDropsSpec Rows.topPushedDropsRow=true:=(q3o (q3o (q3o (q3o (q3o (q3o (q3o (q3o (q3o (q3o (q3o (q3o (q3o (q3o (q3o (q3o (q3o (q3o (q3o (q3o (q3o (q3o (q3o (q3o (q3o (q3o (q3o (q3o (q3o (q3o (q3o q31 q30) q3z) q3y) q3x) q3w) q3v) q3u) q3t) q3s) q3a) q29) q28) q27) q26) q25) q24) q23) q22) q21) q20) q2z) q2y) q2x) q2w) q2v) q2u) q2t) q2s) q2r) q2q) q2p)
end Go.Proofs.YtjjkdjbbkagclaaGreatDoor
