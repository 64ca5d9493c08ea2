/- SemBounds: 2 elements. -/
import Derived.Test.YtblciblkocameaaGreatBm
namespace Go.Proofs.YtblciblkocameaaGreat.Sx
open Go Go.Proofs.YtblciblkocameaaGreat.Ev
noncomputable section
theorem ranR1 : (eR1 50 2).Ran tabY 900 12 := ⟨by kernel_rfl, kR1, by kernel_rfl, by kernel_rfl⟩
theorem ranP1 : (eP1 50 2).Ran tabY 900 12 := ⟨by kernel_rfl, kP1, by kernel_rfl, by kernel_rfl⟩
abbrev B1 : ST := tabT (eR1 50 2) (eP1 50 2)
theorem g1x0 : AB [o6 B1 1 0, o6 B1 1 1, o6 B1 1 2, o6 B1 1 3, o6 B1 1 4, o6 B1 1 5] = true := by kernel_rfl
theorem g1x1 : AB [o6 B1 1 6, o6 B1 1 7, o6 B1 1 8, o6 B1 1 9, o6 B1 1 10, o6 B1 1 11] = true := by kernel_rfl
theorem g1x2 : AB [o6 B1 1 12, o6 B1 1 13, o6 B1 1 14, o6 B1 1 15, o6 B1 1 16, o6 B1 1 17] = true := by kernel_rfl
theorem g1x3 : AB [o6 B1 1 18, o6 B1 1 19, o6 B1 1 20, o6 B1 1 21, o6 B1 1 22, o6 B1 1 23] = true := by kernel_rfl
theorem g1x4 : AB [o6 B1 1 24, o6 B1 1 25, o6 B1 1 26, o6 B1 1 27, o6 B1 1 28, o6 B1 1 29] = true := by kernel_rfl
theorem g1x5 : AB [o6 B1 1 30, o6 B1 1 31, o6 B1 1 32, o6 B1 1 33, o6 B1 1 34, o6 B1 1 35] = true := by kernel_rfl
theorem g1x6 : AB [o6 B1 1 36, o6 B1 1 37, o6 B1 1 38, o6 B1 1 39, o6 B1 1 40, o6 B1 1 41] = true := by kernel_rfl
theorem g1x7 : AB [o6 B1 1 42, o6 B1 1 43, o6 B1 1 44, o6 B1 1 45, o6 B1 1 46, o6 B1 1 47] = true := by kernel_rfl
theorem g1x8 : AB [o6 B1 1 48, o6 B1 1 49, o6 B1 1 50, o6 B1 1 51, o6 B1 1 52, o6 B1 1 53] = true := by kernel_rfl
theorem g1x9 : AB [o6 B1 1 54, o6 B1 1 55, o6 B1 1 56, o6 B1 1 57, o6 B1 1 58, o6 B1 1 59] = true := by kernel_rfl
theorem gB1 : ∃ t : ST, ST.Ok Tryz.prog t ∧ t.find 6 = tabS.find 6 ∧ ∀ i, i < 60 → o6 t 1 i = true := ⟨B1, (okT ranR1 ranP1).1, (okT ranR1 ranP1).2, all60 (o6 B1 1) g1x0 g1x1 g1x2 g1x3 g1x4 g1x5 g1x6 g1x7 g1x8 g1x9⟩
end
end Go.Proofs.YtblciblkocameaaGreat.Sx
