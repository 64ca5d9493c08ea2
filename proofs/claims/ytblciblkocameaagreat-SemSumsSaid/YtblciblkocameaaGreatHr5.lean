/- SemSums: 71 to 75 words. -/
import Derived.Test.YtblciblkocameaaGreatHu
namespace Go.Proofs.YtblciblkocameaaGreat.Sx
open Go Go.Proofs.YtblciblkocameaaGreat.Ev
noncomputable section
theorem g71 : oE (.slice .h 0 71 .unk) (h0E (toksE 71 0)) = true := by kernel_rfl
theorem g72 : oE (.slice .h 0 72 .unk) (h0E (toksE 72 0)) = true := by kernel_rfl
theorem g73 : oE (.slice .h 0 73 .unk) (h0E (toksE 73 0)) = true := by kernel_rfl
theorem g74 : oE (.slice .h 0 74 .unk) (h0E (toksE 74 0)) = true := by kernel_rfl
theorem g75 : oE (.slice .h 0 75 .unk) (h0E (toksE 75 0)) = true := by kernel_rfl
end
end Go.Proofs.YtblciblkocameaaGreat.Sx
