/- SemSums: 66 to 70 words. -/
import Derived.Test.YtblciblkocameaaGreatHu
namespace Go.Proofs.YtblciblkocameaaGreat.Sx
open Go Go.Proofs.YtblciblkocameaaGreat.Ev
noncomputable section
theorem g66 : oE (.slice .h 0 66 .unk) (h0E (toksE 66 0)) = true := by kernel_rfl
theorem g67 : oE (.slice .h 0 67 .unk) (h0E (toksE 67 0)) = true := by kernel_rfl
theorem g68 : oE (.slice .h 0 68 .unk) (h0E (toksE 68 0)) = true := by kernel_rfl
theorem g69 : oE (.slice .h 0 69 .unk) (h0E (toksE 69 0)) = true := by kernel_rfl
theorem g70 : oE (.slice .h 0 70 .unk) (h0E (toksE 70 0)) = true := by kernel_rfl
end
end Go.Proofs.YtblciblkocameaaGreat.Sx
