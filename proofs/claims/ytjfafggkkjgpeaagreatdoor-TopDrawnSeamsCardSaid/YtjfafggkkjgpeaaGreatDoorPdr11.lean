/- Texts of the proof of the statement that the last text proves. -/
import Derived.Test.YtjfafggkkjgpeaaGreatDoorPde
set_option linter.all false
set_option maxHeartbeats 2000000
namespace Go.Proofs.YtjfafggkkjgpeaaGreatDoor
open Go Go.RowKit Ox Ox.Rn
set_option maxRecDepth 100000 in
theorem z40:stepW Tryz.prog 30 46 15 0 L46_8 L46_9=true:=by decide +kernel
end Go.Proofs.YtjfafggkkjgpeaaGreatDoor
