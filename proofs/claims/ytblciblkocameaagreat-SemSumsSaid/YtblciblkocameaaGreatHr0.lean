/- SemSums: 0 to 30 words. -/
import Derived.Test.YtblciblkocameaaGreatHu
namespace Go.Proofs.YtblciblkocameaaGreat.Sx
open Go Go.Proofs.YtblciblkocameaaGreat.Ev
noncomputable section
theorem g0 : oE (.slice .h 0 0 .unk) (h0E (toksE 0 0)) = true := by kernel_rfl
theorem g1 : oE (.slice .h 0 1 .unk) (h0E (toksE 1 0)) = true := by kernel_rfl
theorem g2 : oE (.slice .h 0 2 .unk) (h0E (toksE 2 0)) = true := by kernel_rfl
theorem g3 : oE (.slice .h 0 3 .unk) (h0E (toksE 3 0)) = true := by kernel_rfl
theorem g4 : oE (.slice .h 0 4 .unk) (h0E (toksE 4 0)) = true := by kernel_rfl
theorem g5 : oE (.slice .h 0 5 .unk) (h0E (toksE 5 0)) = true := by kernel_rfl
theorem g6 : oE (.slice .h 0 6 .unk) (h0E (toksE 6 0)) = true := by kernel_rfl
theorem g7 : oE (.slice .h 0 7 .unk) (h0E (toksE 7 0)) = true := by kernel_rfl
theorem g8 : oE (.slice .h 0 8 .unk) (h0E (toksE 8 0)) = true := by kernel_rfl
theorem g9 : oE (.slice .h 0 9 .unk) (h0E (toksE 9 0)) = true := by kernel_rfl
theorem g10 : oE (.slice .h 0 10 .unk) (h0E (toksE 10 0)) = true := by kernel_rfl
theorem g11 : oE (.slice .h 0 11 .unk) (h0E (toksE 11 0)) = true := by kernel_rfl
theorem g12 : oE (.slice .h 0 12 .unk) (h0E (toksE 12 0)) = true := by kernel_rfl
theorem g13 : oE (.slice .h 0 13 .unk) (h0E (toksE 13 0)) = true := by kernel_rfl
theorem g14 : oE (.slice .h 0 14 .unk) (h0E (toksE 14 0)) = true := by kernel_rfl
theorem g15 : oE (.slice .h 0 15 .unk) (h0E (toksE 15 0)) = true := by kernel_rfl
theorem g16 : oE (.slice .h 0 16 .unk) (h0E (toksE 16 0)) = true := by kernel_rfl
theorem g17 : oE (.slice .h 0 17 .unk) (h0E (toksE 17 0)) = true := by kernel_rfl
theorem g18 : oE (.slice .h 0 18 .unk) (h0E (toksE 18 0)) = true := by kernel_rfl
theorem g19 : oE (.slice .h 0 19 .unk) (h0E (toksE 19 0)) = true := by kernel_rfl
theorem g20 : oE (.slice .h 0 20 .unk) (h0E (toksE 20 0)) = true := by kernel_rfl
theorem g21 : oE (.slice .h 0 21 .unk) (h0E (toksE 21 0)) = true := by kernel_rfl
theorem g22 : oE (.slice .h 0 22 .unk) (h0E (toksE 22 0)) = true := by kernel_rfl
theorem g23 : oE (.slice .h 0 23 .unk) (h0E (toksE 23 0)) = true := by kernel_rfl
theorem g24 : oE (.slice .h 0 24 .unk) (h0E (toksE 24 0)) = true := by kernel_rfl
theorem g25 : oE (.slice .h 0 25 .unk) (h0E (toksE 25 0)) = true := by kernel_rfl
theorem g26 : oE (.slice .h 0 26 .unk) (h0E (toksE 26 0)) = true := by kernel_rfl
theorem g27 : oE (.slice .h 0 27 .unk) (h0E (toksE 27 0)) = true := by kernel_rfl
theorem g28 : oE (.slice .h 0 28 .unk) (h0E (toksE 28 0)) = true := by kernel_rfl
theorem g29 : oE (.slice .h 0 29 .unk) (h0E (toksE 29 0)) = true := by kernel_rfl
theorem g30 : oE (.slice .h 0 30 .unk) (h0E (toksE 30 0)) = true := by kernel_rfl
end
end Go.Proofs.YtblciblkocameaaGreat.Sx
