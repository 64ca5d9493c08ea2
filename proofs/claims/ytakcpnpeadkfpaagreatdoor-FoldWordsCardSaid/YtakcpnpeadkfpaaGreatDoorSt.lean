/- The table. -/
import Derived.Test.YtakcpnpeadkfpaaGreatDoorSt0
import Derived.Test.YtakcpnpeadkfpaaGreatDoorSt1
import Derived.Test.YtakcpnpeadkfpaaGreatDoorSt2
namespace Go.Proofs.YtakcpnpeadkfpaaGreatDoor.Sx
open Go Go.Proofs.YtakcpnpeadkfpaaGreatDoor.Ev
set_option linter.unusedSectionVars false
variable [Rho]
noncomputable def tabS : ST := (ST.node 58 tr0 (ST.node 143 tr1 tr2))
theorem okS : ST.Ok Tryz.prog tabS := (ST.Ok.node _ _ _ ok0 (ST.Ok.node _ _ _ ok1 ok2))
end Go.Proofs.YtakcpnpeadkfpaaGreatDoor.Sx
