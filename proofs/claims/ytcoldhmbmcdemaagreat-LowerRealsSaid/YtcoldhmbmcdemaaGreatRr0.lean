/- LowerReals: the kernel's run, operator 0. -/
import Derived.Test.YtcoldhmbmcdemaaGreatRu
namespace Go.Proofs.YtcoldhmbmcdemaaGreat.Sx
open Go Go.Proofs.YtcoldhmbmcdemaaGreat.Ev
theorem gR0 : oR 0 = true := by kernel_rfl
end Go.Proofs.YtcoldhmbmcdemaaGreat.Sx
