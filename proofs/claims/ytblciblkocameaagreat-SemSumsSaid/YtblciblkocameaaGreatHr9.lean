/- SemSums: 91 to 95 words. -/
import Derived.Test.YtblciblkocameaaGreatHu
namespace Go.Proofs.YtblciblkocameaaGreat.Sx
open Go Go.Proofs.YtblciblkocameaaGreat.Ev
noncomputable section
theorem g91 : oE (.slice .h 0 91 .unk) (h0E (toksE 91 0)) = true := by kernel_rfl
theorem g92 : oE (.slice .h 0 92 .unk) (h0E (toksE 92 0)) = true := by kernel_rfl
theorem g93 : oE (.slice .h 0 93 .unk) (h0E (toksE 93 0)) = true := by kernel_rfl
theorem g94 : oE (.slice .h 0 94 .unk) (h0E (toksE 94 0)) = true := by kernel_rfl
theorem g95 : oE (.slice .h 0 95 .unk) (h0E (toksE 95 0)) = true := by kernel_rfl
end
end Go.Proofs.YtblciblkocameaaGreat.Sx
