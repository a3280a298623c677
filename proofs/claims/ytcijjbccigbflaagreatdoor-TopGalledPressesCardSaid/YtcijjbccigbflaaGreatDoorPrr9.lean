/- Texts of the proof of the statement that the last text proves. -/
import Derived.Test.YtcijjbccigbflaaGreatDoorPre
set_option linter.all false
set_option maxHeartbeats 2000000
namespace Go.Proofs.YtcijjbccigbflaaGreatDoor
open Go Go.RowKit Ox Ox.Rn
set_option maxRecDepth 100000 in
def j0k:stepW Tryz.prog 30 18 0 9 (lit0 gsT 8) L18_0=true:=by decide +kernel
end Go.Proofs.YtcijjbccigbflaaGreatDoor
