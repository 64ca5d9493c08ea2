/- SemReals at the texts' numbers: the kernel's runs, part 2. -/
import Derived.Test.YtblciblkocameaaGreatRu
namespace Go.Proofs.YtblciblkocameaaGreat.Sx
theorem g30 : all6 0 3 = true := by kernel_rfl
theorem g31 : all6 1 3 = true := by kernel_rfl
theorem g32 : all6 2 3 = true := by kernel_rfl
theorem g33 : all6 3 3 = true := by kernel_rfl
theorem g34 : all6 4 3 = true := by kernel_rfl
theorem g35 : all6 5 3 = true := by kernel_rfl
theorem g40 : all6 0 4 = true := by kernel_rfl
theorem g41 : all6 1 4 = true := by kernel_rfl
theorem g42 : all6 2 4 = true := by kernel_rfl
end Go.Proofs.YtblciblkocameaaGreat.Sx
