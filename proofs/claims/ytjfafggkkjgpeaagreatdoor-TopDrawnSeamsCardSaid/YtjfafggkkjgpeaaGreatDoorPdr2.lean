/- Texts of the proof of the statement that the last text proves. -/
import Derived.Test.YtjfafggkkjgpeaaGreatDoorPde
set_option linter.all false
set_option maxHeartbeats 2000000
namespace Go.Proofs.YtjfafggkkjgpeaaGreatDoor
open Go Go.RowKit Ox Ox.Rn
set_option maxRecDepth 100000 in
theorem z49:stepW Tryz.prog 30 46 0 6 (lit0 gsT 8) L46_0=true:=by decide +kernel
end Go.Proofs.YtjfafggkkjgpeaaGreatDoor
