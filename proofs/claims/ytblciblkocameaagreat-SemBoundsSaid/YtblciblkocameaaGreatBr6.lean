/- SemBounds: 7 elements. -/
import Derived.Test.YtblciblkocameaaGreatBm
namespace Go.Proofs.YtblciblkocameaaGreat.Sx
open Go Go.Proofs.YtblciblkocameaaGreat.Ev
noncomputable section
theorem ranR6 : (eR1 55 7).Ran tabY 900 12 := ⟨by kernel_rfl, kR1, by kernel_rfl, by kernel_rfl⟩
theorem ranP6 : (eP1 55 7).Ran tabY 900 12 := ⟨by kernel_rfl, kP1, by kernel_rfl, by kernel_rfl⟩
abbrev B6 : ST := tabT (eR1 55 7) (eP1 55 7)
theorem g6x0 : AB [o6 B6 6 0, o6 B6 6 1, o6 B6 6 2, o6 B6 6 3, o6 B6 6 4, o6 B6 6 5] = true := by kernel_rfl
theorem g6x1 : AB [o6 B6 6 6, o6 B6 6 7, o6 B6 6 8, o6 B6 6 9, o6 B6 6 10, o6 B6 6 11] = true := by kernel_rfl
theorem g6x2 : AB [o6 B6 6 12, o6 B6 6 13, o6 B6 6 14, o6 B6 6 15, o6 B6 6 16, o6 B6 6 17] = true := by kernel_rfl
theorem g6x3 : AB [o6 B6 6 18, o6 B6 6 19, o6 B6 6 20, o6 B6 6 21, o6 B6 6 22, o6 B6 6 23] = true := by kernel_rfl
theorem g6x4 : AB [o6 B6 6 24, o6 B6 6 25, o6 B6 6 26, o6 B6 6 27, o6 B6 6 28, o6 B6 6 29] = true := by kernel_rfl
theorem g6x5 : AB [o6 B6 6 30, o6 B6 6 31, o6 B6 6 32, o6 B6 6 33, o6 B6 6 34, o6 B6 6 35] = true := by kernel_rfl
theorem g6x6 : AB [o6 B6 6 36, o6 B6 6 37, o6 B6 6 38, o6 B6 6 39, o6 B6 6 40, o6 B6 6 41] = true := by kernel_rfl
theorem g6x7 : AB [o6 B6 6 42, o6 B6 6 43, o6 B6 6 44, o6 B6 6 45, o6 B6 6 46, o6 B6 6 47] = true := by kernel_rfl
theorem g6x8 : AB [o6 B6 6 48, o6 B6 6 49, o6 B6 6 50, o6 B6 6 51, o6 B6 6 52, o6 B6 6 53] = true := by kernel_rfl
theorem g6x9 : AB [o6 B6 6 54, o6 B6 6 55, o6 B6 6 56, o6 B6 6 57, o6 B6 6 58, o6 B6 6 59] = true := by kernel_rfl
theorem gB6 : ∃ t : ST, ST.Ok Tryz.prog t ∧ t.find 6 = tabS.find 6 ∧ ∀ i, i < 60 → o6 t 6 i = true := ⟨B6, (okT ranR6 ranP6).1, (okT ranR6 ranP6).2, all60 (o6 B6 6) g6x0 g6x1 g6x2 g6x3 g6x4 g6x5 g6x6 g6x7 g6x8 g6x9⟩
end
end Go.Proofs.YtblciblkocameaaGreat.Sx
