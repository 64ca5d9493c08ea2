/- SemReals at the texts' numbers: the kernel's runs, part 3. -/
import Derived.Test.YtblciblkocameaaGreatRu
namespace Go.Proofs.YtblciblkocameaaGreat.Sx
theorem g43 : all6 3 4 = true := by kernel_rfl
theorem g44 : all6 4 4 = true := by kernel_rfl
theorem g45 : all6 5 4 = true := by kernel_rfl
theorem g50 : all6 0 5 = true := by kernel_rfl
theorem g51 : all6 1 5 = true := by kernel_rfl
theorem g52 : all6 2 5 = true := by kernel_rfl
theorem g53 : all6 3 5 = true := by kernel_rfl
theorem g54 : all6 4 5 = true := by kernel_rfl
theorem g55 : all6 5 5 = true := by kernel_rfl
end Go.Proofs.YtblciblkocameaaGreat.Sx
