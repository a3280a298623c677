/- Texts of the proof of the statement that the last text proves. -/
import Derived.Test.YtjjkdjbbkagclaaGreatDoorPje
import Derived.Test.YtjjkdjbbkagclaaGreatDoorRows
import Derived.Test.YtjjkdjbbkagclaaGreatDoorTie
import Derived.Test.YtjjkdjbbkagclaaGreatDoorCards
import Derived.ProofKit
import Derived.LaidMore
import Derived.Lay
import Derived.SevenTiedAt
import Derived.Stop.Joined
import Derived.ChangeSame
import Derived.ChangeVars
import Derived.JoinedOf
set_option linter.all false
set_option maxHeartbeats 2000000
namespace Go.Proofs.YtjjkdjbbkagclaaGreatDoor
open Go Go.RowKit Go.ChangeShapes Go.WideShapes Go.ChangeAt
def q4w{a b:Bool}(h:a=true)(k:b=true):(a&&b)=true:=by rw[h,k];rfl
def q22:(Rows.topExchangedColoursRow.wf (OpenSpec.ofChange Rows.topExchangedColoursSpec))=true:=by kernel_rfl
def q21:(laidOutB Tryz.pinned.checked.prog)=true:=by kernel_rfl
def q20:(mapsRowed Tryz.pinned.checked.prog)=true:=by kernel_rfl
def q2z:(Tryz.f4.params.all (Tryz.pinned.checked.prog.readableRec ·))=true:=by kernel_rfl
def q2y:(namedTie Tryz.pinned.checked.prog Rows.topExchangedColoursRow.named Rows.topExchangedColoursSpec.vars)=true:=by kernel_rfl
def q2x:((Rows.topExchangedColoursRow.stops==[]))=true:=by kernel_rfl
def q2w:((Tryz.pinned.checked.prog.stops==[]))=true:=by kernel_rfl
def q2v:((Rows.topExchangedColoursRow.knobs==[]))=true:=by kernel_rfl
def q2u:((Tryz.pinned.checked.prog.stopKnobs==[]))=true:=by kernel_rfl
def q2t:((Rows.topExchangedColoursRow.inPlace==Tryz.pinned.checked.prog.inPlace 4))=true:=by kernel_rfl
def q19:((Rows.topExchangedColoursRow.unfollowed==Tryz.pinned.checked.prog.unfollowed 4))=true:=by kernel_rfl
def q18:((Rows.topExchangedColoursRow.recurses==Tryz.pinned.checked.prog.recurses 4))=true:=by kernel_rfl
def q17:((Rows.topExchangedColoursRow.named==Tryz.pinned.checked.prog.varsNamed 4))=true:=by kernel_rfl
def q16:((Rows.topExchangedColoursRow.maps==(Tryz.f4.params.toList++Rows.topExchangedColoursSpec.plain.varTypes Tryz.pinned.checked.prog).any (Tryz.pinned.checked.prog.mapsRec ·)))=true:=by kernel_rfl
def q15:((Rows.topExchangedColoursRow.ifaces==(Tryz.f4.params.toList++Rows.topExchangedColoursSpec.plain.varTypes Tryz.pinned.checked.prog).any (Tryz.pinned.checked.prog.ifacesRec ·)))=true:=by kernel_rfl
def q14:((Rows.topExchangedColoursRow.mapsOut==Tryz.pinned.checked.prog.mapsAmong Tryz.f4.resultTypes.toList))=true:=by kernel_rfl
def q13:((Rows.topExchangedColoursRow.loops==(Tryz.f4.params.toList++Rows.topExchangedColoursSpec.plain.varTypes Tryz.pinned.checked.prog).any (Tryz.pinned.checked.prog.loopsFrom ·)))=true:=by kernel_rfl
def q12:((Rows.topExchangedColoursRow.wideKeys==(Tryz.f4.params.toList++Rows.topExchangedColoursSpec.plain.varTypes Tryz.pinned.checked.prog++Tryz.f4.resultTypes.toList).any (Tryz.pinned.checked.prog.wideKeysFrom ·)))=true:=by kernel_rfl
def q11:(Rows.topExchangedColoursSpec.vars.all (Tryz.pinned.checked.prog.varReadable ·))=true:=by kernel_rfl
def q10:(Tryz.f4.resultTypes.all (fun t=>Tryz.pinned.checked.prog.readableRec t&&decide (t<Tryz.pinned.checked.prog.types.size)))=true:=by kernel_rfl
def q1z:((Rows.topExchangedColoursRow.ifacesOut==Tryz.f4.resultTypes.toList.any (Tryz.pinned.checked.prog.ifacesRec ·)))=true:=by kernel_rfl
def q1y:((Rows.topExchangedColoursRow.loopsOut==Tryz.f4.resultTypes.toList.any (Tryz.pinned.checked.prog.loopsFrom ·)))=true:=by kernel_rfl
def q1x:((Rows.topExchangedColoursRow.plainKeys==Tryz.pinned.checked.prog.plainKeys))=true:=by kernel_rfl
def q1w:(Rows.topExchangedColoursRow.shortTexts.isNone)=true:=by kernel_rfl
def q1v:(Tryz.pinned.checked.prog.stopsHeard)=true:=by kernel_rfl
def q1u:(Tryz.pinned.checked.prog.mayEnter)=true:=by kernel_rfl
def q1t:((Rows.topExchangedColoursRow.lifted==Tryz.pinned.checked.prog.liftsFinal))=true:=by kernel_rfl
def q1s:((Tryz.pinned.checked.prog.make==some Rows.topExchangedColoursRow.make))=true:=by kernel_rfl
def q1r:((Rows.topExchangedColoursRow.kinds==(if Rows.topExchangedColoursRow.domain.isEmpty then [] else Tryz.f4.params.toList.map fun t=>match Tryz.pinned.checked.prog.underlying t with|some (.int k)=>some k|_=>none)))=true:=by kernel_rfl
def q1q:((Rows.topExchangedColoursRow.pinned==Rows.topExchangedColoursRow.pinnedBy))=true:=by kernel_rfl
def q1p:((Rows.topExchangedColoursRow.veiled==(Tryz.f4.params.toList++Rows.topExchangedColoursSpec.plain.varTypes Tryz.pinned.checked.prog++Tryz.f4.resultTypes.toList).any (Tryz.pinned.checked.prog.veiledRec ·)))=true:=by kernel_rfl
def q1o:(Rows.topExchangedColoursRow.veiledFits Tryz.pinned.checked.prog Tryz.f4.params.toList (Tryz.f4.params.toList++Rows.topExchangedColoursSpec.plain.varTypes Tryz.pinned.checked.prog++Tryz.f4.resultTypes.toList))=true:=by kernel_rfl
set_option maxRecDepth 100000 in
def q1i:joinedFacts Tryz.pinned.checked.prog 4 Tryz.f4 Rows.topExchangedColoursSpec Rows.topExchangedColoursRow=true:=(q4w (q4w (q4w (q4w (q4w (q4w (q4w (q4w (q4w (q4w (q4w (q4w (q4w (q4w (q4w (q4w (q4w (q4w (q4w (q4w (q4w (q4w (q4w (q4w (q4w (q4w (q4w (q4w (q4w (q4w (q4w q22 q21) q20) q2z) q2y) q2x) q2w) q2v) q2u) q2t) q19) q18) q17) q16) q15) q14) q13) q12) q11) q10) q1z) q1y) q1x) q1w) q1v) q1u) q1t) q1s) q1r) q1q) q1p) q1o)
end Go.Proofs.YtjjkdjbbkagclaaGreatDoor
