/- Texts of the proof of the statement that the last text proves. -/
import Derived.Test.YtjfafggkkjgpeaaGreatDoorPde
set_option linter.all false
set_option maxHeartbeats 2000000
namespace Go.Proofs.YtjfafggkkjgpeaaGreatDoor
open Go Go.RowKit Ox Ox.Rn
set_option maxRecDepth 100000 in
theorem run23:FnZ (Laid gsT) Tryz.prog 23 (.bool true):=FnZ.run xok (nx:=8) (F:=30) (Nat.le_of_ble_eq_true rfl) (by decide +kernel)
end Go.Proofs.YtjfafggkkjgpeaaGreatDoor
