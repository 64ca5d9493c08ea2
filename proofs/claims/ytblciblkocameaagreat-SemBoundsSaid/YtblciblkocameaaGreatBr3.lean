/- SemBounds: 4 elements. -/
import Derived.Test.YtblciblkocameaaGreatBm
namespace Go.Proofs.YtblciblkocameaaGreat.Sx
open Go Go.Proofs.YtblciblkocameaaGreat.Ev
noncomputable section
theorem ranR3 : (eR1 52 4).Ran tabY 900 12 := ⟨by kernel_rfl, kR1, by kernel_rfl, by kernel_rfl⟩
theorem ranP3 : (eP1 52 4).Ran tabY 900 12 := ⟨by kernel_rfl, kP1, by kernel_rfl, by kernel_rfl⟩
abbrev B3 : ST := tabT (eR1 52 4) (eP1 52 4)
theorem g3x0 : AB [o6 B3 3 0, o6 B3 3 1, o6 B3 3 2, o6 B3 3 3, o6 B3 3 4, o6 B3 3 5] = true := by kernel_rfl
theorem g3x1 : AB [o6 B3 3 6, o6 B3 3 7, o6 B3 3 8, o6 B3 3 9, o6 B3 3 10, o6 B3 3 11] = true := by kernel_rfl
theorem g3x2 : AB [o6 B3 3 12, o6 B3 3 13, o6 B3 3 14, o6 B3 3 15, o6 B3 3 16, o6 B3 3 17] = true := by kernel_rfl
theorem g3x3 : AB [o6 B3 3 18, o6 B3 3 19, o6 B3 3 20, o6 B3 3 21, o6 B3 3 22, o6 B3 3 23] = true := by kernel_rfl
theorem g3x4 : AB [o6 B3 3 24, o6 B3 3 25, o6 B3 3 26, o6 B3 3 27, o6 B3 3 28, o6 B3 3 29] = true := by kernel_rfl
theorem g3x5 : AB [o6 B3 3 30, o6 B3 3 31, o6 B3 3 32, o6 B3 3 33, o6 B3 3 34, o6 B3 3 35] = true := by kernel_rfl
theorem g3x6 : AB [o6 B3 3 36, o6 B3 3 37, o6 B3 3 38, o6 B3 3 39, o6 B3 3 40, o6 B3 3 41] = true := by kernel_rfl
theorem g3x7 : AB [o6 B3 3 42, o6 B3 3 43, o6 B3 3 44, o6 B3 3 45, o6 B3 3 46, o6 B3 3 47] = true := by kernel_rfl
theorem g3x8 : AB [o6 B3 3 48, o6 B3 3 49, o6 B3 3 50, o6 B3 3 51, o6 B3 3 52, o6 B3 3 53] = true := by kernel_rfl
theorem g3x9 : AB [o6 B3 3 54, o6 B3 3 55, o6 B3 3 56, o6 B3 3 57, o6 B3 3 58, o6 B3 3 59] = true := by kernel_rfl
theorem gB3 : ∃ t : ST, ST.Ok Tryz.prog t ∧ t.find 6 = tabS.find 6 ∧ ∀ i, i < 60 → o6 t 3 i = true := ⟨B3, (okT ranR3 ranP3).1, (okT ranR3 ranP3).2, all60 (o6 B3 3) g3x0 g3x1 g3x2 g3x3 g3x4 g3x5 g3x6 g3x7 g3x8 g3x9⟩
end
end Go.Proofs.YtblciblkocameaaGreat.Sx
