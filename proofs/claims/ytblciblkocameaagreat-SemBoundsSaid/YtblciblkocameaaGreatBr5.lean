/- SemBounds: 6 elements. -/
import Derived.Test.YtblciblkocameaaGreatBm
namespace Go.Proofs.YtblciblkocameaaGreat.Sx
open Go Go.Proofs.YtblciblkocameaaGreat.Ev
noncomputable section
theorem ranR5 : (eR1 54 6).Ran tabY 900 12 := ⟨by kernel_rfl, kR1, by kernel_rfl, by kernel_rfl⟩
theorem ranP5 : (eP1 54 6).Ran tabY 900 12 := ⟨by kernel_rfl, kP1, by kernel_rfl, by kernel_rfl⟩
abbrev B5 : ST := tabT (eR1 54 6) (eP1 54 6)
theorem g5x0 : AB [o6 B5 5 0, o6 B5 5 1, o6 B5 5 2, o6 B5 5 3, o6 B5 5 4, o6 B5 5 5] = true := by kernel_rfl
theorem g5x1 : AB [o6 B5 5 6, o6 B5 5 7, o6 B5 5 8, o6 B5 5 9, o6 B5 5 10, o6 B5 5 11] = true := by kernel_rfl
theorem g5x2 : AB [o6 B5 5 12, o6 B5 5 13, o6 B5 5 14, o6 B5 5 15, o6 B5 5 16, o6 B5 5 17] = true := by kernel_rfl
theorem g5x3 : AB [o6 B5 5 18, o6 B5 5 19, o6 B5 5 20, o6 B5 5 21, o6 B5 5 22, o6 B5 5 23] = true := by kernel_rfl
theorem g5x4 : AB [o6 B5 5 24, o6 B5 5 25, o6 B5 5 26, o6 B5 5 27, o6 B5 5 28, o6 B5 5 29] = true := by kernel_rfl
theorem g5x5 : AB [o6 B5 5 30, o6 B5 5 31, o6 B5 5 32, o6 B5 5 33, o6 B5 5 34, o6 B5 5 35] = true := by kernel_rfl
theorem g5x6 : AB [o6 B5 5 36, o6 B5 5 37, o6 B5 5 38, o6 B5 5 39, o6 B5 5 40, o6 B5 5 41] = true := by kernel_rfl
theorem g5x7 : AB [o6 B5 5 42, o6 B5 5 43, o6 B5 5 44, o6 B5 5 45, o6 B5 5 46, o6 B5 5 47] = true := by kernel_rfl
theorem g5x8 : AB [o6 B5 5 48, o6 B5 5 49, o6 B5 5 50, o6 B5 5 51, o6 B5 5 52, o6 B5 5 53] = true := by kernel_rfl
theorem g5x9 : AB [o6 B5 5 54, o6 B5 5 55, o6 B5 5 56, o6 B5 5 57, o6 B5 5 58, o6 B5 5 59] = true := by kernel_rfl
theorem gB5 : ∃ t : ST, ST.Ok Tryz.prog t ∧ t.find 6 = tabS.find 6 ∧ ∀ i, i < 60 → o6 t 5 i = true := ⟨B5, (okT ranR5 ranP5).1, (okT ranR5 ranP5).2, all60 (o6 B5 5) g5x0 g5x1 g5x2 g5x3 g5x4 g5x5 g5x6 g5x7 g5x8 g5x9⟩
end
end Go.Proofs.YtblciblkocameaaGreat.Sx
