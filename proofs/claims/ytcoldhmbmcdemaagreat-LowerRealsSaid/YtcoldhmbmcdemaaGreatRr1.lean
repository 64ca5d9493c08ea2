/- LowerReals: the kernel's run, operator 1. -/
import Derived.Test.YtcoldhmbmcdemaaGreatRu
namespace Go.Proofs.YtcoldhmbmcdemaaGreat.Sx
open Go Go.Proofs.YtcoldhmbmcdemaaGreat.Ev
theorem gR1 : oR 1 = true := by kernel_rfl
end Go.Proofs.YtcoldhmbmcdemaaGreat.Sx
