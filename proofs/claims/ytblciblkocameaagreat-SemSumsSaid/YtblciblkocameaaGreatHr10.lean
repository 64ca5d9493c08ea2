/- SemSums: 96 to 100 words. -/
import Derived.Test.YtblciblkocameaaGreatHu
namespace Go.Proofs.YtblciblkocameaaGreat.Sx
open Go Go.Proofs.YtblciblkocameaaGreat.Ev
noncomputable section
theorem g96 : oE (.slice .h 0 96 .unk) (h0E (toksE 96 0)) = true := by kernel_rfl
theorem g97 : oE (.slice .h 0 97 .unk) (h0E (toksE 97 0)) = true := by kernel_rfl
theorem g98 : oE (.slice .h 0 98 .unk) (h0E (toksE 98 0)) = true := by kernel_rfl
theorem g99 : oE (.slice .h 0 99 .unk) (h0E (toksE 99 0)) = true := by kernel_rfl
theorem g100 : oE (.slice .h 0 100 .unk) (h0E (toksE 100 0)) = true := by kernel_rfl
end
end Go.Proofs.YtblciblkocameaaGreat.Sx
