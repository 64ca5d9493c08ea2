/- SemSums: 31 to 45 words. -/
import Derived.Test.YtblciblkocameaaGreatHu
namespace Go.Proofs.YtblciblkocameaaGreat.Sx
open Go Go.Proofs.YtblciblkocameaaGreat.Ev
noncomputable section
theorem g31 : oE (.slice .h 0 31 .unk) (h0E (toksE 31 0)) = true := by kernel_rfl
theorem g32 : oE (.slice .h 0 32 .unk) (h0E (toksE 32 0)) = true := by kernel_rfl
theorem g33 : oE (.slice .h 0 33 .unk) (h0E (toksE 33 0)) = true := by kernel_rfl
theorem g34 : oE (.slice .h 0 34 .unk) (h0E (toksE 34 0)) = true := by kernel_rfl
theorem g35 : oE (.slice .h 0 35 .unk) (h0E (toksE 35 0)) = true := by kernel_rfl
theorem g36 : oE (.slice .h 0 36 .unk) (h0E (toksE 36 0)) = true := by kernel_rfl
theorem g37 : oE (.slice .h 0 37 .unk) (h0E (toksE 37 0)) = true := by kernel_rfl
theorem g38 : oE (.slice .h 0 38 .unk) (h0E (toksE 38 0)) = true := by kernel_rfl
theorem g39 : oE (.slice .h 0 39 .unk) (h0E (toksE 39 0)) = true := by kernel_rfl
theorem g40 : oE (.slice .h 0 40 .unk) (h0E (toksE 40 0)) = true := by kernel_rfl
theorem g41 : oE (.slice .h 0 41 .unk) (h0E (toksE 41 0)) = true := by kernel_rfl
theorem g42 : oE (.slice .h 0 42 .unk) (h0E (toksE 42 0)) = true := by kernel_rfl
theorem g43 : oE (.slice .h 0 43 .unk) (h0E (toksE 43 0)) = true := by kernel_rfl
theorem g44 : oE (.slice .h 0 44 .unk) (h0E (toksE 44 0)) = true := by kernel_rfl
theorem g45 : oE (.slice .h 0 45 .unk) (h0E (toksE 45 0)) = true := by kernel_rfl
end
end Go.Proofs.YtblciblkocameaaGreat.Sx
