/- SemSums: 56 to 65 words. -/
import Derived.Test.YtblciblkocameaaGreatHu
namespace Go.Proofs.YtblciblkocameaaGreat.Sx
open Go Go.Proofs.YtblciblkocameaaGreat.Ev
noncomputable section
theorem g56 : oE (.slice .h 0 56 .unk) (h0E (toksE 56 0)) = true := by kernel_rfl
theorem g57 : oE (.slice .h 0 57 .unk) (h0E (toksE 57 0)) = true := by kernel_rfl
theorem g58 : oE (.slice .h 0 58 .unk) (h0E (toksE 58 0)) = true := by kernel_rfl
theorem g59 : oE (.slice .h 0 59 .unk) (h0E (toksE 59 0)) = true := by kernel_rfl
theorem g60 : oE (.slice .h 0 60 .unk) (h0E (toksE 60 0)) = true := by kernel_rfl
theorem g61 : oE (.slice .h 0 61 .unk) (h0E (toksE 61 0)) = true := by kernel_rfl
theorem g62 : oE (.slice .h 0 62 .unk) (h0E (toksE 62 0)) = true := by kernel_rfl
theorem g63 : oE (.slice .h 0 63 .unk) (h0E (toksE 63 0)) = true := by kernel_rfl
theorem g64 : oE (.slice .h 0 64 .unk) (h0E (toksE 64 0)) = true := by kernel_rfl
theorem g65 : oE (.slice .h 0 65 .unk) (h0E (toksE 65 0)) = true := by kernel_rfl
end
end Go.Proofs.YtblciblkocameaaGreat.Sx
