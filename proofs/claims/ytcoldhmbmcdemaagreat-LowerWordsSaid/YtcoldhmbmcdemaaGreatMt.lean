/- The table. -/
import Derived.Test.YtcoldhmbmcdemaaGreatMt0
import Derived.Test.YtcoldhmbmcdemaaGreatMt1
import Derived.Test.YtcoldhmbmcdemaaGreatMt2
import Derived.Test.YtcoldhmbmcdemaaGreatMt3
namespace Go.Proofs.YtcoldhmbmcdemaaGreat.Sx
open Go Go.Proofs.YtcoldhmbmcdemaaGreat.Ev
noncomputable def tabS : ST := (ST.node 57 tr0 (ST.node 133 tr1 (ST.node 203 tr2 tr3)))
theorem okS : ST.Ok Tryz.prog tabS := (ST.Ok.node _ _ _ ok0 (ST.Ok.node _ _ _ ok1 (ST.Ok.node _ _ _ ok2 ok3)))
end Go.Proofs.YtcoldhmbmcdemaaGreat.Sx
