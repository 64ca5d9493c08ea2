/- SemGone: the kernel's runs, part 2. -/
import Derived.Test.YtblciblkocameaaGreatGu
namespace Go.Proofs.YtblciblkocameaaGreat.Sx
open Go Go.Proofs.YtblciblkocameaaGreat.Ev
theorem gG8 : and2G (o8 24 false) (and2G (o8 25 false) (o8 26 false)) = true := by kernel_rfl
theorem gG9 : and2G (o8 27 false) (and2G (o8 28 false) (o8 29 false)) = true := by kernel_rfl
theorem gG10 : and2G (o8 0 true) (and2G (o8 1 true) (o8 2 true)) = true := by kernel_rfl
theorem gG11 : and2G (o8 3 true) (and2G (o8 4 true) (o8 5 true)) = true := by kernel_rfl
end Go.Proofs.YtblciblkocameaaGreat.Sx
