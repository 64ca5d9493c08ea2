/- The table. -/
import Derived.Test.YtnpadfengpoehaaGreatDoorSt0
import Derived.Test.YtnpadfengpoehaaGreatDoorSt1
import Derived.Test.YtnpadfengpoehaaGreatDoorSt2
namespace Go.Proofs.YtnpadfengpoehaaGreatDoor.Sx
open Go Go.Proofs.YtnpadfengpoehaaGreatDoor.Ev
set_option linter.unusedSectionVars false
variable [Rho]
noncomputable def tabS : ST := (ST.node 79 tr0 (ST.node 198 tr1 tr2))
theorem okS : ST.Ok Tryz.prog tabS := (ST.Ok.node _ _ _ ok0 (ST.Ok.node _ _ _ ok1 ok2))
end Go.Proofs.YtnpadfengpoehaaGreatDoor.Sx
