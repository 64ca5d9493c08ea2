/- SemSums: 76 to 80 words. -/
import Derived.Test.YtblciblkocameaaGreatHu
namespace Go.Proofs.YtblciblkocameaaGreat.Sx
open Go Go.Proofs.YtblciblkocameaaGreat.Ev
noncomputable section
theorem g76 : oE (.slice .h 0 76 .unk) (h0E (toksE 76 0)) = true := by kernel_rfl
theorem g77 : oE (.slice .h 0 77 .unk) (h0E (toksE 77 0)) = true := by kernel_rfl
theorem g78 : oE (.slice .h 0 78 .unk) (h0E (toksE 78 0)) = true := by kernel_rfl
theorem g79 : oE (.slice .h 0 79 .unk) (h0E (toksE 79 0)) = true := by kernel_rfl
theorem g80 : oE (.slice .h 0 80 .unk) (h0E (toksE 80 0)) = true := by kernel_rfl
end
end Go.Proofs.YtblciblkocameaaGreat.Sx
