/- The table. -/
import Derived.Test.YtmoabbfdehaenaaGreatDoorSt0
import Derived.Test.YtmoabbfdehaenaaGreatDoorSt1
namespace Go.Proofs.YtmoabbfdehaenaaGreatDoor.Sx
open Go Go.Proofs.YtmoabbfdehaenaaGreatDoor.Ev
set_option linter.unusedSectionVars false
variable [Rho]
noncomputable def tabS : ST := (ST.node 95 tr0 tr1)
theorem okS : ST.Ok Tryz.prog tabS := (ST.Ok.node _ _ _ ok0 ok1)
end Go.Proofs.YtmoabbfdehaenaaGreatDoor.Sx
