/- The table. -/
import Derived.Test.YtbfdhoggchedjaaGreatDoorSt0
import Derived.Test.YtbfdhoggchedjaaGreatDoorSt1
namespace Go.Proofs.YtbfdhoggchedjaaGreatDoor.Sx
open Go Go.Proofs.YtbfdhoggchedjaaGreatDoor.Ev
set_option linter.unusedSectionVars false
variable [Rho]
noncomputable def tabS : ST := (ST.node 123 tr0 tr1)
theorem okS : ST.Ok Tryz.prog tabS := (ST.Ok.node _ _ _ ok0 ok1)
end Go.Proofs.YtbfdhoggchedjaaGreatDoor.Sx
