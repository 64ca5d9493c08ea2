/- SemBounds: 20 elements. -/
import Derived.Test.YtblciblkocameaaGreatBm
namespace Go.Proofs.YtblciblkocameaaGreat.Sx
open Go Go.Proofs.YtblciblkocameaaGreat.Ev
noncomputable section
theorem ranR19 : (eR2 50 48 20).Ran tabY 900 12 := ⟨by kernel_rfl, kR2, by kernel_rfl, by kernel_rfl⟩
theorem ranP19 : (eP2 50 48 20).Ran tabY 900 12 := ⟨by kernel_rfl, kP2, by kernel_rfl, by kernel_rfl⟩
abbrev B19 : ST := tabT (eR2 50 48 20) (eP2 50 48 20)
theorem g19x0 : AB [o6 B19 19 0, o6 B19 19 1, o6 B19 19 2, o6 B19 19 3, o6 B19 19 4, o6 B19 19 5] = true := by kernel_rfl
theorem g19x1 : AB [o6 B19 19 6, o6 B19 19 7, o6 B19 19 8, o6 B19 19 9, o6 B19 19 10, o6 B19 19 11] = true := by kernel_rfl
theorem g19x2 : AB [o6 B19 19 12, o6 B19 19 13, o6 B19 19 14, o6 B19 19 15, o6 B19 19 16, o6 B19 19 17] = true := by kernel_rfl
theorem g19x3 : AB [o6 B19 19 18, o6 B19 19 19, o6 B19 19 20, o6 B19 19 21, o6 B19 19 22, o6 B19 19 23] = true := by kernel_rfl
theorem g19x4 : AB [o6 B19 19 24, o6 B19 19 25, o6 B19 19 26, o6 B19 19 27, o6 B19 19 28, o6 B19 19 29] = true := by kernel_rfl
theorem g19x5 : AB [o6 B19 19 30, o6 B19 19 31, o6 B19 19 32, o6 B19 19 33, o6 B19 19 34, o6 B19 19 35] = true := by kernel_rfl
theorem g19x6 : AB [o6 B19 19 36, o6 B19 19 37, o6 B19 19 38, o6 B19 19 39, o6 B19 19 40, o6 B19 19 41] = true := by kernel_rfl
theorem g19x7 : AB [o6 B19 19 42, o6 B19 19 43, o6 B19 19 44, o6 B19 19 45, o6 B19 19 46, o6 B19 19 47] = true := by kernel_rfl
theorem g19x8 : AB [o6 B19 19 48, o6 B19 19 49, o6 B19 19 50, o6 B19 19 51, o6 B19 19 52, o6 B19 19 53] = true := by kernel_rfl
theorem g19x9 : AB [o6 B19 19 54, o6 B19 19 55, o6 B19 19 56, o6 B19 19 57, o6 B19 19 58, o6 B19 19 59] = true := by kernel_rfl
theorem gB19 : ∃ t : ST, ST.Ok Tryz.prog t ∧ t.find 6 = tabS.find 6 ∧ ∀ i, i < 60 → o6 t 19 i = true := ⟨B19, (okT ranR19 ranP19).1, (okT ranR19 ranP19).2, all60 (o6 B19 19) g19x0 g19x1 g19x2 g19x3 g19x4 g19x5 g19x6 g19x7 g19x8 g19x9⟩
end
end Go.Proofs.YtblciblkocameaaGreat.Sx
