/- The table. -/
import Derived.Test.YtomglhellgmbkaaGreatDoorSt0
namespace Go.Proofs.YtomglhellgmbkaaGreatDoor.Sx
open Go Go.Proofs.YtomglhellgmbkaaGreatDoor.Ev
set_option linter.unusedSectionVars false
variable [Rho]
noncomputable def tabS : ST := tr0
theorem okS : ST.Ok Tryz.prog tabS := ok0
end Go.Proofs.YtomglhellgmbkaaGreatDoor.Sx
