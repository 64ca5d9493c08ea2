/- SemBounds: 3 elements. -/
import Derived.Test.YtblciblkocameaaGreatBm
namespace Go.Proofs.YtblciblkocameaaGreat.Sx
open Go Go.Proofs.YtblciblkocameaaGreat.Ev
noncomputable section
theorem ranR2 : (eR1 51 3).Ran tabY 900 12 := ⟨by kernel_rfl, kR1, by kernel_rfl, by kernel_rfl⟩
theorem ranP2 : (eP1 51 3).Ran tabY 900 12 := ⟨by kernel_rfl, kP1, by kernel_rfl, by kernel_rfl⟩
abbrev B2 : ST := tabT (eR1 51 3) (eP1 51 3)
theorem g2x0 : AB [o6 B2 2 0, o6 B2 2 1, o6 B2 2 2, o6 B2 2 3, o6 B2 2 4, o6 B2 2 5] = true := by kernel_rfl
theorem g2x1 : AB [o6 B2 2 6, o6 B2 2 7, o6 B2 2 8, o6 B2 2 9, o6 B2 2 10, o6 B2 2 11] = true := by kernel_rfl
theorem g2x2 : AB [o6 B2 2 12, o6 B2 2 13, o6 B2 2 14, o6 B2 2 15, o6 B2 2 16, o6 B2 2 17] = true := by kernel_rfl
theorem g2x3 : AB [o6 B2 2 18, o6 B2 2 19, o6 B2 2 20, o6 B2 2 21, o6 B2 2 22, o6 B2 2 23] = true := by kernel_rfl
theorem g2x4 : AB [o6 B2 2 24, o6 B2 2 25, o6 B2 2 26, o6 B2 2 27, o6 B2 2 28, o6 B2 2 29] = true := by kernel_rfl
theorem g2x5 : AB [o6 B2 2 30, o6 B2 2 31, o6 B2 2 32, o6 B2 2 33, o6 B2 2 34, o6 B2 2 35] = true := by kernel_rfl
theorem g2x6 : AB [o6 B2 2 36, o6 B2 2 37, o6 B2 2 38, o6 B2 2 39, o6 B2 2 40, o6 B2 2 41] = true := by kernel_rfl
theorem g2x7 : AB [o6 B2 2 42, o6 B2 2 43, o6 B2 2 44, o6 B2 2 45, o6 B2 2 46, o6 B2 2 47] = true := by kernel_rfl
theorem g2x8 : AB [o6 B2 2 48, o6 B2 2 49, o6 B2 2 50, o6 B2 2 51, o6 B2 2 52, o6 B2 2 53] = true := by kernel_rfl
theorem g2x9 : AB [o6 B2 2 54, o6 B2 2 55, o6 B2 2 56, o6 B2 2 57, o6 B2 2 58, o6 B2 2 59] = true := by kernel_rfl
theorem gB2 : ∃ t : ST, ST.Ok Tryz.prog t ∧ t.find 6 = tabS.find 6 ∧ ∀ i, i < 60 → o6 t 2 i = true := ⟨B2, (okT ranR2 ranP2).1, (okT ranR2 ranP2).2, all60 (o6 B2 2) g2x0 g2x1 g2x2 g2x3 g2x4 g2x5 g2x6 g2x7 g2x8 g2x9⟩
end
end Go.Proofs.YtblciblkocameaaGreat.Sx
