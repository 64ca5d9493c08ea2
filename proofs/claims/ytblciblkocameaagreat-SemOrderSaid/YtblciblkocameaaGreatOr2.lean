/- SemOrder: the kernel's runs, part 2. -/
import Derived.Test.YtblciblkocameaaGreatOu
namespace Go.Proofs.YtblciblkocameaaGreat.Sx
open Go Go.Proofs.YtblciblkocameaaGreat.Ev
theorem gO4 : and2O (o9 0 2) (and2O (o9 1 2) (and2O (o9 2 2) (o9 3 2))) = true := by kernel_rfl
theorem gO5 : and2O (o9 4 2) (and2O (o9 5 2) (and2O (o9 6 2) (o9 7 2))) = true := by kernel_rfl
end Go.Proofs.YtblciblkocameaaGreat.Sx
