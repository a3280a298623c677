/- Texts of the proof of the statement that the last text proves. -/
import Derived.Test.YtjmhhehhfeengaaGreatDoorPqe
set_option linter.all false
set_option maxHeartbeats 2000000
namespace Go.Proofs.YtjmhhehhfeengaaGreatDoor
open Go Go.RowKit Ox Ox.Rn
set_option maxRecDepth 100000 in
def z8p:stepW Tryz.prog 30 100 14 0 L100_7 L100_8=true:=by decide +kernel
end Go.Proofs.YtjmhhehhfeengaaGreatDoor
