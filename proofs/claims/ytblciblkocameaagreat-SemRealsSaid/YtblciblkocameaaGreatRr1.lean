/- SemReals at the texts' numbers: the kernel's runs, part 1. -/
import Derived.Test.YtblciblkocameaaGreatRu
namespace Go.Proofs.YtblciblkocameaaGreat.Sx
theorem g13 : all6 3 1 = true := by kernel_rfl
theorem g14 : all6 4 1 = true := by kernel_rfl
theorem g15 : all6 5 1 = true := by kernel_rfl
theorem g20 : all6 0 2 = true := by kernel_rfl
theorem g21 : all6 1 2 = true := by kernel_rfl
theorem g22 : all6 2 2 = true := by kernel_rfl
theorem g23 : all6 3 2 = true := by kernel_rfl
theorem g24 : all6 4 2 = true := by kernel_rfl
theorem g25 : all6 5 2 = true := by kernel_rfl
end Go.Proofs.YtblciblkocameaaGreat.Sx
