/- SemBounds: 12 elements. -/
import Derived.Test.YtblciblkocameaaGreatBm
namespace Go.Proofs.YtblciblkocameaaGreat.Sx
open Go Go.Proofs.YtblciblkocameaaGreat.Ev
noncomputable section
theorem ranR11 : (eR2 49 50 12).Ran tabY 900 12 := ⟨by kernel_rfl, kR2, by kernel_rfl, by kernel_rfl⟩
theorem ranP11 : (eP2 49 50 12).Ran tabY 900 12 := ⟨by kernel_rfl, kP2, by kernel_rfl, by kernel_rfl⟩
abbrev B11 : ST := tabT (eR2 49 50 12) (eP2 49 50 12)
theorem g11x0 : AB [o6 B11 11 0, o6 B11 11 1, o6 B11 11 2, o6 B11 11 3, o6 B11 11 4, o6 B11 11 5] = true := by kernel_rfl
theorem g11x1 : AB [o6 B11 11 6, o6 B11 11 7, o6 B11 11 8, o6 B11 11 9, o6 B11 11 10, o6 B11 11 11] = true := by kernel_rfl
theorem g11x2 : AB [o6 B11 11 12, o6 B11 11 13, o6 B11 11 14, o6 B11 11 15, o6 B11 11 16, o6 B11 11 17] = true := by kernel_rfl
theorem g11x3 : AB [o6 B11 11 18, o6 B11 11 19, o6 B11 11 20, o6 B11 11 21, o6 B11 11 22, o6 B11 11 23] = true := by kernel_rfl
theorem g11x4 : AB [o6 B11 11 24, o6 B11 11 25, o6 B11 11 26, o6 B11 11 27, o6 B11 11 28, o6 B11 11 29] = true := by kernel_rfl
theorem g11x5 : AB [o6 B11 11 30, o6 B11 11 31, o6 B11 11 32, o6 B11 11 33, o6 B11 11 34, o6 B11 11 35] = true := by kernel_rfl
theorem g11x6 : AB [o6 B11 11 36, o6 B11 11 37, o6 B11 11 38, o6 B11 11 39, o6 B11 11 40, o6 B11 11 41] = true := by kernel_rfl
theorem g11x7 : AB [o6 B11 11 42, o6 B11 11 43, o6 B11 11 44, o6 B11 11 45, o6 B11 11 46, o6 B11 11 47] = true := by kernel_rfl
theorem g11x8 : AB [o6 B11 11 48, o6 B11 11 49, o6 B11 11 50, o6 B11 11 51, o6 B11 11 52, o6 B11 11 53] = true := by kernel_rfl
theorem g11x9 : AB [o6 B11 11 54, o6 B11 11 55, o6 B11 11 56, o6 B11 11 57, o6 B11 11 58, o6 B11 11 59] = true := by kernel_rfl
theorem gB11 : ∃ t : ST, ST.Ok Tryz.prog t ∧ t.find 6 = tabS.find 6 ∧ ∀ i, i < 60 → o6 t 11 i = true := ⟨B11, (okT ranR11 ranP11).1, (okT ranR11 ranP11).2, all60 (o6 B11 11) g11x0 g11x1 g11x2 g11x3 g11x4 g11x5 g11x6 g11x7 g11x8 g11x9⟩
end
end Go.Proofs.YtblciblkocameaaGreat.Sx
