/- SemWords: the kernel's runs, part 1. -/
import Derived.Test.YtblciblkocameaaGreatSu
namespace Go.Proofs.YtblciblkocameaaGreat.Sx
open Go Go.Proofs.YtblciblkocameaaGreat.Ev
theorem gS1 (B : Bool) : oV (tabV 2 B) 1 = true := by kernel_rfl
theorem gS4 (B : Bool) : oV (tabV 16 B) 4 = true := by kernel_rfl
theorem gS7 (B : Bool) : oV (tabV 10 B) 7 = true := by kernel_rfl
theorem gS10false (B : Bool) : oV (tabL false B) 10 = true := by kernel_rfl
end Go.Proofs.YtblciblkocameaaGreat.Sx
