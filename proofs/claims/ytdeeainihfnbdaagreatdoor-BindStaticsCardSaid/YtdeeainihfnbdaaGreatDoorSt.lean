/- The table. -/
import Derived.Test.YtdeeainihfnbdaaGreatDoorSt0
import Derived.Test.YtdeeainihfnbdaaGreatDoorSt1
import Derived.Test.YtdeeainihfnbdaaGreatDoorSt2
namespace Go.Proofs.YtdeeainihfnbdaaGreatDoor.Sx
open Go Go.Proofs.YtdeeainihfnbdaaGreatDoor.Ev
set_option linter.unusedSectionVars false
variable [Rho]
noncomputable def tabS : ST := (ST.node 58 tr0 (ST.node 130 tr1 tr2))
theorem okS : ST.Ok Tryz.prog tabS := (ST.Ok.node _ _ _ ok0 (ST.Ok.node _ _ _ ok1 ok2))
end Go.Proofs.YtdeeainihfnbdaaGreatDoor.Sx
