/- Texts of the proof of the statement that the last text proves. -/
import Derived.Test.YtjecebccchhmhaaGreatDoorPte
set_option linter.all false
set_option maxHeartbeats 2000000
namespace Go.Proofs.YtjecebccchhmhaaGreatDoor
open Go Go.RowKit Ox Ox.Rn
set_option maxRecDepth 100000 in
def run45:FnZ (Laid gsT) Tryz.prog 45 (.bool true):=FnZ.run xok (nx:=8) (F:=30) (yyd rfl) (by decide +kernel)
end Go.Proofs.YtjecebccchhmhaaGreatDoor
