/- The table. -/
import Derived.Test.YtbfdhoggchedjaaGreatDoorSt0
namespace Go.Proofs.YtbfdhoggchedjaaGreatDoor.Sx
open Go Go.Proofs.YtbfdhoggchedjaaGreatDoor.Ev
set_option linter.unusedSectionVars false
variable [Rho]
noncomputable def tabS : ST := tr0
theorem okS : ST.Ok Tryz.prog tabS := ok0
end Go.Proofs.YtbfdhoggchedjaaGreatDoor.Sx
