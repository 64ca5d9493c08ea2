/- SemSums: 46 to 55 words. -/
import Derived.Test.YtblciblkocameaaGreatHu
namespace Go.Proofs.YtblciblkocameaaGreat.Sx
open Go Go.Proofs.YtblciblkocameaaGreat.Ev
noncomputable section
theorem g46 : oE (.slice .h 0 46 .unk) (h0E (toksE 46 0)) = true := by kernel_rfl
theorem g47 : oE (.slice .h 0 47 .unk) (h0E (toksE 47 0)) = true := by kernel_rfl
theorem g48 : oE (.slice .h 0 48 .unk) (h0E (toksE 48 0)) = true := by kernel_rfl
theorem g49 : oE (.slice .h 0 49 .unk) (h0E (toksE 49 0)) = true := by kernel_rfl
theorem g50 : oE (.slice .h 0 50 .unk) (h0E (toksE 50 0)) = true := by kernel_rfl
theorem g51 : oE (.slice .h 0 51 .unk) (h0E (toksE 51 0)) = true := by kernel_rfl
theorem g52 : oE (.slice .h 0 52 .unk) (h0E (toksE 52 0)) = true := by kernel_rfl
theorem g53 : oE (.slice .h 0 53 .unk) (h0E (toksE 53 0)) = true := by kernel_rfl
theorem g54 : oE (.slice .h 0 54 .unk) (h0E (toksE 54 0)) = true := by kernel_rfl
theorem g55 : oE (.slice .h 0 55 .unk) (h0E (toksE 55 0)) = true := by kernel_rfl
end
end Go.Proofs.YtblciblkocameaaGreat.Sx
