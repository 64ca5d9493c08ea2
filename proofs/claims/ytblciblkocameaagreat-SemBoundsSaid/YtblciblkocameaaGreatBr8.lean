/- SemBounds: 9 elements. -/
import Derived.Test.YtblciblkocameaaGreatBm
namespace Go.Proofs.YtblciblkocameaaGreat.Sx
open Go Go.Proofs.YtblciblkocameaaGreat.Ev
noncomputable section
theorem ranR8 : (eR1 57 9).Ran tabY 900 12 := ⟨by kernel_rfl, kR1, by kernel_rfl, by kernel_rfl⟩
theorem ranP8 : (eP1 57 9).Ran tabY 900 12 := ⟨by kernel_rfl, kP1, by kernel_rfl, by kernel_rfl⟩
abbrev B8 : ST := tabT (eR1 57 9) (eP1 57 9)
theorem g8x0 : AB [o6 B8 8 0, o6 B8 8 1, o6 B8 8 2, o6 B8 8 3, o6 B8 8 4, o6 B8 8 5] = true := by kernel_rfl
theorem g8x1 : AB [o6 B8 8 6, o6 B8 8 7, o6 B8 8 8, o6 B8 8 9, o6 B8 8 10, o6 B8 8 11] = true := by kernel_rfl
theorem g8x2 : AB [o6 B8 8 12, o6 B8 8 13, o6 B8 8 14, o6 B8 8 15, o6 B8 8 16, o6 B8 8 17] = true := by kernel_rfl
theorem g8x3 : AB [o6 B8 8 18, o6 B8 8 19, o6 B8 8 20, o6 B8 8 21, o6 B8 8 22, o6 B8 8 23] = true := by kernel_rfl
theorem g8x4 : AB [o6 B8 8 24, o6 B8 8 25, o6 B8 8 26, o6 B8 8 27, o6 B8 8 28, o6 B8 8 29] = true := by kernel_rfl
theorem g8x5 : AB [o6 B8 8 30, o6 B8 8 31, o6 B8 8 32, o6 B8 8 33, o6 B8 8 34, o6 B8 8 35] = true := by kernel_rfl
theorem g8x6 : AB [o6 B8 8 36, o6 B8 8 37, o6 B8 8 38, o6 B8 8 39, o6 B8 8 40, o6 B8 8 41] = true := by kernel_rfl
theorem g8x7 : AB [o6 B8 8 42, o6 B8 8 43, o6 B8 8 44, o6 B8 8 45, o6 B8 8 46, o6 B8 8 47] = true := by kernel_rfl
theorem g8x8 : AB [o6 B8 8 48, o6 B8 8 49, o6 B8 8 50, o6 B8 8 51, o6 B8 8 52, o6 B8 8 53] = true := by kernel_rfl
theorem g8x9 : AB [o6 B8 8 54, o6 B8 8 55, o6 B8 8 56, o6 B8 8 57, o6 B8 8 58, o6 B8 8 59] = true := by kernel_rfl
theorem gB8 : ∃ t : ST, ST.Ok Tryz.prog t ∧ t.find 6 = tabS.find 6 ∧ ∀ i, i < 60 → o6 t 8 i = true := ⟨B8, (okT ranR8 ranP8).1, (okT ranR8 ranP8).2, all60 (o6 B8 8) g8x0 g8x1 g8x2 g8x3 g8x4 g8x5 g8x6 g8x7 g8x8 g8x9⟩
end
end Go.Proofs.YtblciblkocameaaGreat.Sx
