/- LowerReals: the kernel's run, operator 3. -/
import Derived.Test.YtcoldhmbmcdemaaGreatRu
namespace Go.Proofs.YtcoldhmbmcdemaaGreat.Sx
open Go Go.Proofs.YtcoldhmbmcdemaaGreat.Ev
theorem gR3 : oR 3 = true := by kernel_rfl
end Go.Proofs.YtcoldhmbmcdemaaGreat.Sx
