/- Texts of the proof of the statement that the last text proves. -/
import Derived.Test.YtjmhhehhfeengaaGreatDoorPqe
set_option linter.all false
set_option maxHeartbeats 2000000
namespace Go.Proofs.YtjmhhehhfeengaaGreatDoor
open Go Go.RowKit Ox Ox.Rn
set_option maxRecDepth 100000 in
def j08:stepW Tryz.prog 30 12 0 9 (lit0 gsT 8) L12_0=true:=by decide +kernel
end Go.Proofs.YtjmhhehhfeengaaGreatDoor
