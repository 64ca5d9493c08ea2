/- LowerReals: the kernel's run, operator 2. -/
import Derived.Test.YtcoldhmbmcdemaaGreatRu
namespace Go.Proofs.YtcoldhmbmcdemaaGreat.Sx
open Go Go.Proofs.YtcoldhmbmcdemaaGreat.Ev
theorem gR2 : oR 2 = true := by kernel_rfl
end Go.Proofs.YtcoldhmbmcdemaaGreat.Sx
