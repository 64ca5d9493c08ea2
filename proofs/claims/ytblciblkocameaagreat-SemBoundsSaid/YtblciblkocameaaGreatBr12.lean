/- SemBounds: 13 elements. -/
import Derived.Test.YtblciblkocameaaGreatBm
namespace Go.Proofs.YtblciblkocameaaGreat.Sx
open Go Go.Proofs.YtblciblkocameaaGreat.Ev
noncomputable section
theorem ranR12 : (eR2 49 51 13).Ran tabY 900 12 := ⟨by kernel_rfl, kR2, by kernel_rfl, by kernel_rfl⟩
theorem ranP12 : (eP2 49 51 13).Ran tabY 900 12 := ⟨by kernel_rfl, kP2, by kernel_rfl, by kernel_rfl⟩
abbrev B12 : ST := tabT (eR2 49 51 13) (eP2 49 51 13)
theorem g12x0 : AB [o6 B12 12 0, o6 B12 12 1, o6 B12 12 2, o6 B12 12 3, o6 B12 12 4, o6 B12 12 5] = true := by kernel_rfl
theorem g12x1 : AB [o6 B12 12 6, o6 B12 12 7, o6 B12 12 8, o6 B12 12 9, o6 B12 12 10, o6 B12 12 11] = true := by kernel_rfl
theorem g12x2 : AB [o6 B12 12 12, o6 B12 12 13, o6 B12 12 14, o6 B12 12 15, o6 B12 12 16, o6 B12 12 17] = true := by kernel_rfl
theorem g12x3 : AB [o6 B12 12 18, o6 B12 12 19, o6 B12 12 20, o6 B12 12 21, o6 B12 12 22, o6 B12 12 23] = true := by kernel_rfl
theorem g12x4 : AB [o6 B12 12 24, o6 B12 12 25, o6 B12 12 26, o6 B12 12 27, o6 B12 12 28, o6 B12 12 29] = true := by kernel_rfl
theorem g12x5 : AB [o6 B12 12 30, o6 B12 12 31, o6 B12 12 32, o6 B12 12 33, o6 B12 12 34, o6 B12 12 35] = true := by kernel_rfl
theorem g12x6 : AB [o6 B12 12 36, o6 B12 12 37, o6 B12 12 38, o6 B12 12 39, o6 B12 12 40, o6 B12 12 41] = true := by kernel_rfl
theorem g12x7 : AB [o6 B12 12 42, o6 B12 12 43, o6 B12 12 44, o6 B12 12 45, o6 B12 12 46, o6 B12 12 47] = true := by kernel_rfl
theorem g12x8 : AB [o6 B12 12 48, o6 B12 12 49, o6 B12 12 50, o6 B12 12 51, o6 B12 12 52, o6 B12 12 53] = true := by kernel_rfl
theorem g12x9 : AB [o6 B12 12 54, o6 B12 12 55, o6 B12 12 56, o6 B12 12 57, o6 B12 12 58, o6 B12 12 59] = true := by kernel_rfl
theorem gB12 : ∃ t : ST, ST.Ok Tryz.prog t ∧ t.find 6 = tabS.find 6 ∧ ∀ i, i < 60 → o6 t 12 i = true := ⟨B12, (okT ranR12 ranP12).1, (okT ranR12 ranP12).2, all60 (o6 B12 12) g12x0 g12x1 g12x2 g12x3 g12x4 g12x5 g12x6 g12x7 g12x8 g12x9⟩
end
end Go.Proofs.YtblciblkocameaaGreat.Sx
