/- The table. -/
import Derived.Test.YtcoldhmbmcdemaaGreatSt0
import Derived.Test.YtcoldhmbmcdemaaGreatSt1
import Derived.Test.YtcoldhmbmcdemaaGreatSt2
import Derived.Test.YtcoldhmbmcdemaaGreatSt3
namespace Go.Proofs.YtcoldhmbmcdemaaGreat.Sx
open Go Go.Proofs.YtcoldhmbmcdemaaGreat.Ev
set_option linter.unusedSectionVars false
variable [Rho]
noncomputable def tabS : ST := (ST.node 51 tr0 (ST.node 115 tr1 (ST.node 185 tr2 tr3)))
theorem okS : ST.Ok Tryz.prog tabS := (ST.Ok.node _ _ _ ok0 (ST.Ok.node _ _ _ ok1 (ST.Ok.node _ _ _ ok2 ok3)))
end Go.Proofs.YtcoldhmbmcdemaaGreat.Sx
