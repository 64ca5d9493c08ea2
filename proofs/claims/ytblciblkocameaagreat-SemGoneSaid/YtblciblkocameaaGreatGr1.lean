/- SemGone: the kernel's runs, part 1. -/
import Derived.Test.YtblciblkocameaaGreatGu
namespace Go.Proofs.YtblciblkocameaaGreat.Sx
open Go Go.Proofs.YtblciblkocameaaGreat.Ev
theorem gG4 : and2G (o8 12 false) (and2G (o8 13 false) (o8 14 false)) = true := by kernel_rfl
theorem gG5 : and2G (o8 15 false) (and2G (o8 16 false) (o8 17 false)) = true := by kernel_rfl
theorem gG6 : and2G (o8 18 false) (and2G (o8 19 false) (o8 20 false)) = true := by kernel_rfl
theorem gG7 : and2G (o8 21 false) (and2G (o8 22 false) (o8 23 false)) = true := by kernel_rfl
end Go.Proofs.YtblciblkocameaaGreat.Sx
