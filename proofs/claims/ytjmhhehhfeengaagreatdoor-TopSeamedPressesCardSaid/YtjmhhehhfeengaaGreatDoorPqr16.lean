/- Texts of the proof of the statement that the last text proves. -/
import Derived.Test.YtjmhhehhfeengaaGreatDoorPqe
set_option linter.all false
set_option maxHeartbeats 2000000
namespace Go.Proofs.YtjmhhehhfeengaaGreatDoor
open Go Go.RowKit Ox Ox.Rn
set_option maxRecDepth 100000 in
def j07:stepW Tryz.prog 30 12 13 0 L12_3 L12_4=true:=by decide +kernel
set_option maxRecDepth 100000 in
def j06:lastW Tryz.prog 30 12 14 L12_4=true:=by decide +kernel
end Go.Proofs.YtjmhhehhfeengaaGreatDoor
