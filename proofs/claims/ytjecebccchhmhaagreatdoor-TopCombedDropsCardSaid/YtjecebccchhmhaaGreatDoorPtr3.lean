/- Texts of the proof of the statement that the last text proves. -/
import Derived.Test.YtjecebccchhmhaaGreatDoorPte
set_option linter.all false
set_option maxHeartbeats 2000000
namespace Go.Proofs.YtjecebccchhmhaaGreatDoor
open Go Go.RowKit Ox Ox.Rn
set_option maxRecDepth 100000 in
def z9c:stepW Tryz.prog 30 47 7 0 L47_0 L47_1=true:=by decide +kernel
end Go.Proofs.YtjecebccchhmhaaGreatDoor
