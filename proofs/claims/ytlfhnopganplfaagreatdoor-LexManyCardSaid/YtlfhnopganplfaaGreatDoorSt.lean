/- The table. -/
import Derived.Test.YtlfhnopganplfaaGreatDoorSt0
namespace Go.Proofs.YtlfhnopganplfaaGreatDoor.Sx
open Go Go.Proofs.YtlfhnopganplfaaGreatDoor.Ev
set_option linter.unusedSectionVars false
variable [Rho]
noncomputable def tabS : ST := tr0
theorem okS : ST.Ok Tryz.prog tabS := ok0
end Go.Proofs.YtlfhnopganplfaaGreatDoor.Sx
