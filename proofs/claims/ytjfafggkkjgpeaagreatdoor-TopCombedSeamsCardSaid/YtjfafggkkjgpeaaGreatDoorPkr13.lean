/- Texts of the proof of the statement that the last text proves. -/
import Derived.Test.YtjfafggkkjgpeaaGreatDoorPkr2
import Derived.Test.YtjfafggkkjgpeaaGreatDoorPkr3
import Derived.Test.YtjfafggkkjgpeaaGreatDoorPkr4
import Derived.Test.YtjfafggkkjgpeaaGreatDoorPkr5
import Derived.Test.YtjfafggkkjgpeaaGreatDoorPkr6
import Derived.Test.YtjfafggkkjgpeaaGreatDoorPkr7
import Derived.Test.YtjfafggkkjgpeaaGreatDoorPkr8
import Derived.Test.YtjfafggkkjgpeaaGreatDoorPkr9
import Derived.Test.YtjfafggkkjgpeaaGreatDoorPkr10
import Derived.Test.YtjfafggkkjgpeaaGreatDoorPkr11
import Derived.Test.YtjfafggkkjgpeaaGreatDoorPkr12
set_option linter.all false
set_option maxHeartbeats 2000000
namespace Go.Proofs.YtjfafggkkjgpeaaGreatDoor
open Go Go.RowKit Ox Ox.Rn
theorem run46:FnZ (Laid gsT) Tryz.prog 46 (.bool true):=z51 xok (by decide +kernel) (nx:=8) (Nat.le_of_ble_eq_true rfl) (RestF.step z7n (RestF.step z7m (RestF.step z7l (RestF.step z7k (RestF.step z7j (RestF.step z7i (RestF.step z7h (RestF.step z7g (RestF.step z7f (RestF.step z7e (z5p z5a)))))))))))
end Go.Proofs.YtjfafggkkjgpeaaGreatDoor
