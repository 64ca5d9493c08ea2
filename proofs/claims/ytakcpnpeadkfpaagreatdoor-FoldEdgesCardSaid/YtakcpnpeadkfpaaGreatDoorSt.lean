/- The table. -/
import Derived.Test.YtakcpnpeadkfpaaGreatDoorSt0
import Derived.Test.YtakcpnpeadkfpaaGreatDoorSt1
namespace Go.Proofs.YtakcpnpeadkfpaaGreatDoor.Sx
open Go Go.Proofs.YtakcpnpeadkfpaaGreatDoor.Ev
set_option linter.unusedSectionVars false
variable [Rho]
noncomputable def tabS : ST := (ST.node 73 tr0 tr1)
theorem okS : ST.Ok Tryz.prog tabS := (ST.Ok.node _ _ _ ok0 ok1)
end Go.Proofs.YtakcpnpeadkfpaaGreatDoor.Sx
