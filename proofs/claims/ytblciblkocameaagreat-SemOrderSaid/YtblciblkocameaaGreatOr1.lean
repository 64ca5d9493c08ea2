/- SemOrder: the kernel's runs, part 1. -/
import Derived.Test.YtblciblkocameaaGreatOu
namespace Go.Proofs.YtblciblkocameaaGreat.Sx
open Go Go.Proofs.YtblciblkocameaaGreat.Ev
theorem gO2 : and2O (o9 0 1) (and2O (o9 1 1) (and2O (o9 2 1) (o9 3 1))) = true := by kernel_rfl
theorem gO3 : and2O (o9 4 1) (and2O (o9 5 1) (and2O (o9 6 1) (o9 7 1))) = true := by kernel_rfl
end Go.Proofs.YtblciblkocameaaGreat.Sx
