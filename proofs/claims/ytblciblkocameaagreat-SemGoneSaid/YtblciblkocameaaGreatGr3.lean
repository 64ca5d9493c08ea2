/- SemGone: the kernel's runs, part 3. -/
import Derived.Test.YtblciblkocameaaGreatGu
namespace Go.Proofs.YtblciblkocameaaGreat.Sx
open Go Go.Proofs.YtblciblkocameaaGreat.Ev
theorem gG12 : and2G (o8 6 true) (and2G (o8 7 true) (o8 8 true)) = true := by kernel_rfl
theorem gG13 : and2G (o8 9 true) (and2G (o8 10 true) (o8 11 true)) = true := by kernel_rfl
theorem gG14 : and2G (o8 12 true) (and2G (o8 13 true) (o8 14 true)) = true := by kernel_rfl
theorem gG15 : and2G (o8 15 true) (and2G (o8 16 true) (o8 17 true)) = true := by kernel_rfl
end Go.Proofs.YtblciblkocameaaGreat.Sx
