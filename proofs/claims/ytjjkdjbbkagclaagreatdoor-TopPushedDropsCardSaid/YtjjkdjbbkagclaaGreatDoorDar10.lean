/- Texts of the proof of the statement that the last text proves. -/
import Derived.Test.YtjjkdjbbkagclaaGreatDoorDae
set_option linter.all false
set_option maxHeartbeats 2000000
namespace Go.Proofs.YtjjkdjbbkagclaaGreatDoor
open Go Go.RowKit Ox Ox.Rn
set_option maxRecDepth 100000 in
def z6d:stepW Tryz.prog 30 95 14 0 L95_7 L95_8=true:=by decide +kernel
end Go.Proofs.YtjjkdjbbkagclaaGreatDoor
