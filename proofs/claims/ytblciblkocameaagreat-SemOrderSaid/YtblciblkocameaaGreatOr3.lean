/- SemOrder: the kernel's runs, part 3. -/
import Derived.Test.YtblciblkocameaaGreatOu
namespace Go.Proofs.YtblciblkocameaaGreat.Sx
open Go Go.Proofs.YtblciblkocameaaGreat.Ev
theorem gO6 : and2O (o9 0 3) (and2O (o9 1 3) (and2O (o9 2 3) (o9 3 3))) = true := by kernel_rfl
theorem gO7 : and2O (o9 4 3) (and2O (o9 5 3) (and2O (o9 6 3) (o9 7 3))) = true := by kernel_rfl
end Go.Proofs.YtblciblkocameaaGreat.Sx
