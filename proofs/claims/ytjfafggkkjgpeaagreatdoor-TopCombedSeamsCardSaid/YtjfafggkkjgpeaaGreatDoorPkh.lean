/- Texts of the proof of the statement that the last text proves. -/
import Derived.Test.YtjfafggkkjgpeaaGreatDoorPkg
import Derived.Test.YtjfafggkkjgpeaaGreatDoorPkr0
import Derived.Test.YtjfafggkkjgpeaaGreatDoorPkr1
import Derived.Test.YtjfafggkkjgpeaaGreatDoorPkr2
import Derived.Test.YtjfafggkkjgpeaaGreatDoorPkr3
import Derived.Test.YtjfafggkkjgpeaaGreatDoorPkr4
import Derived.Test.YtjfafggkkjgpeaaGreatDoorPkr5
import Derived.Test.YtjfafggkkjgpeaaGreatDoorPkr6
import Derived.Test.YtjfafggkkjgpeaaGreatDoorPkr7
import Derived.Test.YtjfafggkkjgpeaaGreatDoorPkr8
import Derived.Test.YtjfafggkkjgpeaaGreatDoorPkr9
import Derived.Test.YtjfafggkkjgpeaaGreatDoorPkr10
import Derived.Test.YtjfafggkkjgpeaaGreatDoorPkr11
import Derived.Test.YtjfafggkkjgpeaaGreatDoorPkr12
import Derived.Test.YtjfafggkkjgpeaaGreatDoorPkr13
import Derived.Test.YtjfafggkkjgpeaaGreatDoorPkr14
set_option linter.all false
set_option maxHeartbeats 2000000
namespace Go.Proofs.YtjfafggkkjgpeaaGreatDoor
open Go Go.RowKit Ox
theorem run7:FnZ (Rn.Laid gsT) Tryz.prog 7 (.bool true):=works04 (works03 run44 run45 run46) run23
theorem law4{x y a b:Int}{u w:List Int}(hx:0≤x∧x≤255)(hy:0≤y∧y≤255)(ha:0≤a∧a≤255)(hb:0≤b∧b≤255)(hu:∀ z∈u,0≤z∧z≤255)(hw:∀ z∈w,0≤z∧z≤255) :
  FnL (Rn.Laid gsT) Tryz.prog 4 (.acons (v8 x) (.acons (v8 y) (.acons (v8 a) (.acons (v8 b) (.acons (vU u) (.acons (vU w) .anil)))))) (·=vB true):=by
 obtain⟨x,rfl⟩:=Int.eq_ofNat_of_zero_le hx.1
 obtain⟨y,rfl⟩:=Int.eq_ofNat_of_zero_le hy.1
 obtain⟨a,rfl⟩:=Int.eq_ofNat_of_zero_le ha.1
 obtain⟨b,rfl⟩:=Int.eq_ofNat_of_zero_le hb.1
 exact fn4 run7 x y a b (by omega) (by omega) (by omega) (by omega) u w hu hw
end Go.Proofs.YtjfafggkkjgpeaaGreatDoor
