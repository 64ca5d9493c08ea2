/- SemGone: the kernel's runs, part 0. -/
import Derived.Test.YtblciblkocameaaGreatGu
namespace Go.Proofs.YtblciblkocameaaGreat.Sx
open Go Go.Proofs.YtblciblkocameaaGreat.Ev
theorem gG0 : and2G (o8 0 false) (and2G (o8 1 false) (o8 2 false)) = true := by kernel_rfl
theorem gG1 : and2G (o8 3 false) (and2G (o8 4 false) (o8 5 false)) = true := by kernel_rfl
theorem gG2 : and2G (o8 6 false) (and2G (o8 7 false) (o8 8 false)) = true := by kernel_rfl
theorem gG3 : and2G (o8 9 false) (and2G (o8 10 false) (o8 11 false)) = true := by kernel_rfl
end Go.Proofs.YtblciblkocameaaGreat.Sx
