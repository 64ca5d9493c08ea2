/- SemWords: the kernel's runs, part 2. -/
import Derived.Test.YtblciblkocameaaGreatSu
namespace Go.Proofs.YtblciblkocameaaGreat.Sx
open Go Go.Proofs.YtblciblkocameaaGreat.Ev
theorem gS2 (B : Bool) : oV (tabV 11 B) 2 = true := by kernel_rfl
theorem gS5 (B : Bool) : oV (tabV 3 B) 5 = true := by kernel_rfl
theorem gS8 (B : Bool) : oV (tabV 9 B) 8 = true := by kernel_rfl
theorem gS10true (B : Bool) : oV (tabL true B) 10 = true := by kernel_rfl
end Go.Proofs.YtblciblkocameaaGreat.Sx
