/- SemBounds: 10 elements. -/
import Derived.Test.YtblciblkocameaaGreatBm
namespace Go.Proofs.YtblciblkocameaaGreat.Sx
open Go Go.Proofs.YtblciblkocameaaGreat.Ev
noncomputable section
theorem ranR9 : (eR2 49 48 10).Ran tabY 900 12 := ⟨by kernel_rfl, kR2, by kernel_rfl, by kernel_rfl⟩
theorem ranP9 : (eP2 49 48 10).Ran tabY 900 12 := ⟨by kernel_rfl, kP2, by kernel_rfl, by kernel_rfl⟩
abbrev B9 : ST := tabT (eR2 49 48 10) (eP2 49 48 10)
theorem g9x0 : AB [o6 B9 9 0, o6 B9 9 1, o6 B9 9 2, o6 B9 9 3, o6 B9 9 4, o6 B9 9 5] = true := by kernel_rfl
theorem g9x1 : AB [o6 B9 9 6, o6 B9 9 7, o6 B9 9 8, o6 B9 9 9, o6 B9 9 10, o6 B9 9 11] = true := by kernel_rfl
theorem g9x2 : AB [o6 B9 9 12, o6 B9 9 13, o6 B9 9 14, o6 B9 9 15, o6 B9 9 16, o6 B9 9 17] = true := by kernel_rfl
theorem g9x3 : AB [o6 B9 9 18, o6 B9 9 19, o6 B9 9 20, o6 B9 9 21, o6 B9 9 22, o6 B9 9 23] = true := by kernel_rfl
theorem g9x4 : AB [o6 B9 9 24, o6 B9 9 25, o6 B9 9 26, o6 B9 9 27, o6 B9 9 28, o6 B9 9 29] = true := by kernel_rfl
theorem g9x5 : AB [o6 B9 9 30, o6 B9 9 31, o6 B9 9 32, o6 B9 9 33, o6 B9 9 34, o6 B9 9 35] = true := by kernel_rfl
theorem g9x6 : AB [o6 B9 9 36, o6 B9 9 37, o6 B9 9 38, o6 B9 9 39, o6 B9 9 40, o6 B9 9 41] = true := by kernel_rfl
theorem g9x7 : AB [o6 B9 9 42, o6 B9 9 43, o6 B9 9 44, o6 B9 9 45, o6 B9 9 46, o6 B9 9 47] = true := by kernel_rfl
theorem g9x8 : AB [o6 B9 9 48, o6 B9 9 49, o6 B9 9 50, o6 B9 9 51, o6 B9 9 52, o6 B9 9 53] = true := by kernel_rfl
theorem g9x9 : AB [o6 B9 9 54, o6 B9 9 55, o6 B9 9 56, o6 B9 9 57, o6 B9 9 58, o6 B9 9 59] = true := by kernel_rfl
theorem gB9 : ∃ t : ST, ST.Ok Tryz.prog t ∧ t.find 6 = tabS.find 6 ∧ ∀ i, i < 60 → o6 t 9 i = true := ⟨B9, (okT ranR9 ranP9).1, (okT ranR9 ranP9).2, all60 (o6 B9 9) g9x0 g9x1 g9x2 g9x3 g9x4 g9x5 g9x6 g9x7 g9x8 g9x9⟩
end
end Go.Proofs.YtblciblkocameaaGreat.Sx
