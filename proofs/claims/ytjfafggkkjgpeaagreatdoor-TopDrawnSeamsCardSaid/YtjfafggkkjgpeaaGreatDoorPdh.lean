/- Texts of the proof of the statement that the last text proves. -/
import Derived.Test.YtjfafggkkjgpeaaGreatDoorPdg
import Derived.Test.YtjfafggkkjgpeaaGreatDoorPdr0
import Derived.Test.YtjfafggkkjgpeaaGreatDoorPdr1
import Derived.Test.YtjfafggkkjgpeaaGreatDoorPdr2
import Derived.Test.YtjfafggkkjgpeaaGreatDoorPdr3
import Derived.Test.YtjfafggkkjgpeaaGreatDoorPdr4
import Derived.Test.YtjfafggkkjgpeaaGreatDoorPdr5
import Derived.Test.YtjfafggkkjgpeaaGreatDoorPdr6
import Derived.Test.YtjfafggkkjgpeaaGreatDoorPdr7
import Derived.Test.YtjfafggkkjgpeaaGreatDoorPdr8
import Derived.Test.YtjfafggkkjgpeaaGreatDoorPdr9
import Derived.Test.YtjfafggkkjgpeaaGreatDoorPdr10
import Derived.Test.YtjfafggkkjgpeaaGreatDoorPdr11
import Derived.Test.YtjfafggkkjgpeaaGreatDoorPdr12
import Derived.Test.YtjfafggkkjgpeaaGreatDoorPdr13
set_option linter.all false
set_option maxHeartbeats 2000000
namespace Go.Proofs.YtjfafggkkjgpeaaGreatDoor
open Go Go.RowKit Ox Ox.Rn
theorem run46:FnZ (Laid gsT) Tryz.prog 46 (.bool true):=z3x xok (by decide +kernel) (nx:=8) (Nat.le_of_ble_eq_true rfl) (g9 z49 (g9 z48 (g9 z47 (g9 z46 (g9 z45 (g9 z44 (g9 z43 (g9 z42 (g9 z41 (g9 z40 (RestF.last z3c)))))))))))
end Go.Proofs.YtjfafggkkjgpeaaGreatDoor
namespace Go.Proofs.YtjfafggkkjgpeaaGreatDoor
open Go Go.RowKit Ox Ox.Se
theorem run7:FnZ (Rn.Laid gsT) Tryz.prog 7 (.bool true):=works04 (works03 run44 run45 run46) run23
theorem law3{n:Int}{ps:List (List Int)}{z:List Int}{P:Int}{l:List Pt}{u:List Int}(hu:∀ x∈u,0≤x∧x≤255) :
  FnL (Rn.Laid gsT) Tryz.prog 3 (.acons (vBe n ps) (.acons (vL z) (.acons (vS P l) (.acons (vU u) .anil)))) (·=vB true):=fn3 run7 n ps z P l u hu
end Go.Proofs.YtjfafggkkjgpeaaGreatDoor
