/- SemBounds: 5 elements. -/
import Derived.Test.YtblciblkocameaaGreatBm
namespace Go.Proofs.YtblciblkocameaaGreat.Sx
open Go Go.Proofs.YtblciblkocameaaGreat.Ev
noncomputable section
theorem ranR4 : (eR1 53 5).Ran tabY 900 12 := ⟨by kernel_rfl, kR1, by kernel_rfl, by kernel_rfl⟩
theorem ranP4 : (eP1 53 5).Ran tabY 900 12 := ⟨by kernel_rfl, kP1, by kernel_rfl, by kernel_rfl⟩
abbrev B4 : ST := tabT (eR1 53 5) (eP1 53 5)
theorem g4x0 : AB [o6 B4 4 0, o6 B4 4 1, o6 B4 4 2, o6 B4 4 3, o6 B4 4 4, o6 B4 4 5] = true := by kernel_rfl
theorem g4x1 : AB [o6 B4 4 6, o6 B4 4 7, o6 B4 4 8, o6 B4 4 9, o6 B4 4 10, o6 B4 4 11] = true := by kernel_rfl
theorem g4x2 : AB [o6 B4 4 12, o6 B4 4 13, o6 B4 4 14, o6 B4 4 15, o6 B4 4 16, o6 B4 4 17] = true := by kernel_rfl
theorem g4x3 : AB [o6 B4 4 18, o6 B4 4 19, o6 B4 4 20, o6 B4 4 21, o6 B4 4 22, o6 B4 4 23] = true := by kernel_rfl
theorem g4x4 : AB [o6 B4 4 24, o6 B4 4 25, o6 B4 4 26, o6 B4 4 27, o6 B4 4 28, o6 B4 4 29] = true := by kernel_rfl
theorem g4x5 : AB [o6 B4 4 30, o6 B4 4 31, o6 B4 4 32, o6 B4 4 33, o6 B4 4 34, o6 B4 4 35] = true := by kernel_rfl
theorem g4x6 : AB [o6 B4 4 36, o6 B4 4 37, o6 B4 4 38, o6 B4 4 39, o6 B4 4 40, o6 B4 4 41] = true := by kernel_rfl
theorem g4x7 : AB [o6 B4 4 42, o6 B4 4 43, o6 B4 4 44, o6 B4 4 45, o6 B4 4 46, o6 B4 4 47] = true := by kernel_rfl
theorem g4x8 : AB [o6 B4 4 48, o6 B4 4 49, o6 B4 4 50, o6 B4 4 51, o6 B4 4 52, o6 B4 4 53] = true := by kernel_rfl
theorem g4x9 : AB [o6 B4 4 54, o6 B4 4 55, o6 B4 4 56, o6 B4 4 57, o6 B4 4 58, o6 B4 4 59] = true := by kernel_rfl
theorem gB4 : ∃ t : ST, ST.Ok Tryz.prog t ∧ t.find 6 = tabS.find 6 ∧ ∀ i, i < 60 → o6 t 4 i = true := ⟨B4, (okT ranR4 ranP4).1, (okT ranR4 ranP4).2, all60 (o6 B4 4) g4x0 g4x1 g4x2 g4x3 g4x4 g4x5 g4x6 g4x7 g4x8 g4x9⟩
end
end Go.Proofs.YtblciblkocameaaGreat.Sx
