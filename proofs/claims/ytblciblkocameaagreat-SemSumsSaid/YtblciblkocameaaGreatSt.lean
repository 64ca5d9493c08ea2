/- The table. -/
import Derived.Test.YtblciblkocameaaGreatSt0
import Derived.Test.YtblciblkocameaaGreatSt1
import Derived.Test.YtblciblkocameaaGreatSt2
import Derived.Test.YtblciblkocameaaGreatSt3
namespace Go.Proofs.YtblciblkocameaaGreat.Sx
open Go Go.Proofs.YtblciblkocameaaGreat.Ev
set_option linter.unusedSectionVars false
variable [Rho]
noncomputable def tabS : ST := (ST.node 52 tr0 (ST.node 116 tr1 (ST.node 187 tr2 tr3)))
theorem okS : ST.Ok Tryz.prog tabS := (ST.Ok.node _ _ _ ok0 (ST.Ok.node _ _ _ ok1 (ST.Ok.node _ _ _ ok2 ok3)))
end Go.Proofs.YtblciblkocameaaGreat.Sx
