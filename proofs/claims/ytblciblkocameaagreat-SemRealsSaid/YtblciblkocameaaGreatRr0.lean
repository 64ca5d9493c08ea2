/- SemReals at the texts' numbers: the kernel's runs, part 0. -/
import Derived.Test.YtblciblkocameaaGreatRu
namespace Go.Proofs.YtblciblkocameaaGreat.Sx
theorem g00 : all6 0 0 = true := by kernel_rfl
theorem g01 : all6 1 0 = true := by kernel_rfl
theorem g02 : all6 2 0 = true := by kernel_rfl
theorem g03 : all6 3 0 = true := by kernel_rfl
theorem g04 : all6 4 0 = true := by kernel_rfl
theorem g05 : all6 5 0 = true := by kernel_rfl
theorem g10 : all6 0 1 = true := by kernel_rfl
theorem g11 : all6 1 1 = true := by kernel_rfl
theorem g12 : all6 2 1 = true := by kernel_rfl
end Go.Proofs.YtblciblkocameaaGreat.Sx
