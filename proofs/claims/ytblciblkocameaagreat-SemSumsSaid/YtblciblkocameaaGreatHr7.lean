/- SemSums: 81 to 85 words. -/
import Derived.Test.YtblciblkocameaaGreatHu
namespace Go.Proofs.YtblciblkocameaaGreat.Sx
open Go Go.Proofs.YtblciblkocameaaGreat.Ev
noncomputable section
theorem g81 : oE (.slice .h 0 81 .unk) (h0E (toksE 81 0)) = true := by kernel_rfl
theorem g82 : oE (.slice .h 0 82 .unk) (h0E (toksE 82 0)) = true := by kernel_rfl
theorem g83 : oE (.slice .h 0 83 .unk) (h0E (toksE 83 0)) = true := by kernel_rfl
theorem g84 : oE (.slice .h 0 84 .unk) (h0E (toksE 84 0)) = true := by kernel_rfl
theorem g85 : oE (.slice .h 0 85 .unk) (h0E (toksE 85 0)) = true := by kernel_rfl
end
end Go.Proofs.YtblciblkocameaaGreat.Sx
