/- SemBounds: 8 elements. -/
import Derived.Test.YtblciblkocameaaGreatBm
namespace Go.Proofs.YtblciblkocameaaGreat.Sx
open Go Go.Proofs.YtblciblkocameaaGreat.Ev
noncomputable section
theorem ranR7 : (eR1 56 8).Ran tabY 900 12 := ⟨by kernel_rfl, kR1, by kernel_rfl, by kernel_rfl⟩
theorem ranP7 : (eP1 56 8).Ran tabY 900 12 := ⟨by kernel_rfl, kP1, by kernel_rfl, by kernel_rfl⟩
abbrev B7 : ST := tabT (eR1 56 8) (eP1 56 8)
theorem g7x0 : AB [o6 B7 7 0, o6 B7 7 1, o6 B7 7 2, o6 B7 7 3, o6 B7 7 4, o6 B7 7 5] = true := by kernel_rfl
theorem g7x1 : AB [o6 B7 7 6, o6 B7 7 7, o6 B7 7 8, o6 B7 7 9, o6 B7 7 10, o6 B7 7 11] = true := by kernel_rfl
theorem g7x2 : AB [o6 B7 7 12, o6 B7 7 13, o6 B7 7 14, o6 B7 7 15, o6 B7 7 16, o6 B7 7 17] = true := by kernel_rfl
theorem g7x3 : AB [o6 B7 7 18, o6 B7 7 19, o6 B7 7 20, o6 B7 7 21, o6 B7 7 22, o6 B7 7 23] = true := by kernel_rfl
theorem g7x4 : AB [o6 B7 7 24, o6 B7 7 25, o6 B7 7 26, o6 B7 7 27, o6 B7 7 28, o6 B7 7 29] = true := by kernel_rfl
theorem g7x5 : AB [o6 B7 7 30, o6 B7 7 31, o6 B7 7 32, o6 B7 7 33, o6 B7 7 34, o6 B7 7 35] = true := by kernel_rfl
theorem g7x6 : AB [o6 B7 7 36, o6 B7 7 37, o6 B7 7 38, o6 B7 7 39, o6 B7 7 40, o6 B7 7 41] = true := by kernel_rfl
theorem g7x7 : AB [o6 B7 7 42, o6 B7 7 43, o6 B7 7 44, o6 B7 7 45, o6 B7 7 46, o6 B7 7 47] = true := by kernel_rfl
theorem g7x8 : AB [o6 B7 7 48, o6 B7 7 49, o6 B7 7 50, o6 B7 7 51, o6 B7 7 52, o6 B7 7 53] = true := by kernel_rfl
theorem g7x9 : AB [o6 B7 7 54, o6 B7 7 55, o6 B7 7 56, o6 B7 7 57, o6 B7 7 58, o6 B7 7 59] = true := by kernel_rfl
theorem gB7 : ∃ t : ST, ST.Ok Tryz.prog t ∧ t.find 6 = tabS.find 6 ∧ ∀ i, i < 60 → o6 t 7 i = true := ⟨B7, (okT ranR7 ranP7).1, (okT ranR7 ranP7).2, all60 (o6 B7 7) g7x0 g7x1 g7x2 g7x3 g7x4 g7x5 g7x6 g7x7 g7x8 g7x9⟩
end
end Go.Proofs.YtblciblkocameaaGreat.Sx
