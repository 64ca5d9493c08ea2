/- SemWords: the kernel's runs, part 0. -/
import Derived.Test.YtblciblkocameaaGreatSu
namespace Go.Proofs.YtblciblkocameaaGreat.Sx
open Go Go.Proofs.YtblciblkocameaaGreat.Ev
theorem gS0 (B : Bool) : oV (tabV 1 B) 0 = true := by kernel_rfl
theorem gS3 (B : Bool) : oV (tabV 14 B) 3 = true := by kernel_rfl
theorem gS6 (B : Bool) : oV (tabV 8 B) 6 = true := by kernel_rfl
theorem gS9 (B : Bool) : oV (tabV 6 B) 9 = true := by kernel_rfl
end Go.Proofs.YtblciblkocameaaGreat.Sx
