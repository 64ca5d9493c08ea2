/- SemOrder: the kernel's runs, part 0. -/
import Derived.Test.YtblciblkocameaaGreatOu
namespace Go.Proofs.YtblciblkocameaaGreat.Sx
open Go Go.Proofs.YtblciblkocameaaGreat.Ev
theorem gO0 : and2O (o9 0 0) (and2O (o9 1 0) (and2O (o9 2 0) (o9 3 0))) = true := by kernel_rfl
theorem gO1 : and2O (o9 4 0) (and2O (o9 5 0) (and2O (o9 6 0) (o9 7 0))) = true := by kernel_rfl
end Go.Proofs.YtblciblkocameaaGreat.Sx
