/- Texts of the proof of the statement that the last text proves. -/
import Derived.Test.YtcijjbccigbflaaGreatDoorPre
set_option linter.all false
set_option maxHeartbeats 2000000
namespace Go.Proofs.YtcijjbccigbflaaGreatDoor
open Go Go.RowKit Ox Ox.Rn
set_option maxRecDepth 100000 in
def z8f:stepW Tryz.prog 30 117 10 2 L117_2 L117_3=true:=by decide +kernel
end Go.Proofs.YtcijjbccigbflaaGreatDoor
