/- SemSums: 86 to 90 words. -/
import Derived.Test.YtblciblkocameaaGreatHu
namespace Go.Proofs.YtblciblkocameaaGreat.Sx
open Go Go.Proofs.YtblciblkocameaaGreat.Ev
noncomputable section
theorem g86 : oE (.slice .h 0 86 .unk) (h0E (toksE 86 0)) = true := by kernel_rfl
theorem g87 : oE (.slice .h 0 87 .unk) (h0E (toksE 87 0)) = true := by kernel_rfl
theorem g88 : oE (.slice .h 0 88 .unk) (h0E (toksE 88 0)) = true := by kernel_rfl
theorem g89 : oE (.slice .h 0 89 .unk) (h0E (toksE 89 0)) = true := by kernel_rfl
theorem g90 : oE (.slice .h 0 90 .unk) (h0E (toksE 90 0)) = true := by kernel_rfl
end
end Go.Proofs.YtblciblkocameaaGreat.Sx
