/- SemGone: the kernel's runs, part 4. -/
import Derived.Test.YtblciblkocameaaGreatGu
namespace Go.Proofs.YtblciblkocameaaGreat.Sx
open Go Go.Proofs.YtblciblkocameaaGreat.Ev
theorem gG16 : and2G (o8 18 true) (and2G (o8 19 true) (o8 20 true)) = true := by kernel_rfl
theorem gG17 : and2G (o8 21 true) (and2G (o8 22 true) (o8 23 true)) = true := by kernel_rfl
theorem gG18 : and2G (o8 24 true) (and2G (o8 25 true) (o8 26 true)) = true := by kernel_rfl
theorem gG19 : and2G (o8 27 true) (and2G (o8 28 true) (o8 29 true)) = true := by kernel_rfl
end Go.Proofs.YtblciblkocameaaGreat.Sx
