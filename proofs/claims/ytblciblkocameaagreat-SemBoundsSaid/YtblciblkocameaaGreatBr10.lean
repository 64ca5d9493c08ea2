/- SemBounds: 11 elements. -/
import Derived.Test.YtblciblkocameaaGreatBm
namespace Go.Proofs.YtblciblkocameaaGreat.Sx
open Go Go.Proofs.YtblciblkocameaaGreat.Ev
noncomputable section
theorem ranR10 : (eR2 49 49 11).Ran tabY 900 12 := ⟨by kernel_rfl, kR2, by kernel_rfl, by kernel_rfl⟩
theorem ranP10 : (eP2 49 49 11).Ran tabY 900 12 := ⟨by kernel_rfl, kP2, by kernel_rfl, by kernel_rfl⟩
abbrev B10 : ST := tabT (eR2 49 49 11) (eP2 49 49 11)
theorem g10x0 : AB [o6 B10 10 0, o6 B10 10 1, o6 B10 10 2, o6 B10 10 3, o6 B10 10 4, o6 B10 10 5] = true := by kernel_rfl
theorem g10x1 : AB [o6 B10 10 6, o6 B10 10 7, o6 B10 10 8, o6 B10 10 9, o6 B10 10 10, o6 B10 10 11] = true := by kernel_rfl
theorem g10x2 : AB [o6 B10 10 12, o6 B10 10 13, o6 B10 10 14, o6 B10 10 15, o6 B10 10 16, o6 B10 10 17] = true := by kernel_rfl
theorem g10x3 : AB [o6 B10 10 18, o6 B10 10 19, o6 B10 10 20, o6 B10 10 21, o6 B10 10 22, o6 B10 10 23] = true := by kernel_rfl
theorem g10x4 : AB [o6 B10 10 24, o6 B10 10 25, o6 B10 10 26, o6 B10 10 27, o6 B10 10 28, o6 B10 10 29] = true := by kernel_rfl
theorem g10x5 : AB [o6 B10 10 30, o6 B10 10 31, o6 B10 10 32, o6 B10 10 33, o6 B10 10 34, o6 B10 10 35] = true := by kernel_rfl
theorem g10x6 : AB [o6 B10 10 36, o6 B10 10 37, o6 B10 10 38, o6 B10 10 39, o6 B10 10 40, o6 B10 10 41] = true := by kernel_rfl
theorem g10x7 : AB [o6 B10 10 42, o6 B10 10 43, o6 B10 10 44, o6 B10 10 45, o6 B10 10 46, o6 B10 10 47] = true := by kernel_rfl
theorem g10x8 : AB [o6 B10 10 48, o6 B10 10 49, o6 B10 10 50, o6 B10 10 51, o6 B10 10 52, o6 B10 10 53] = true := by kernel_rfl
theorem g10x9 : AB [o6 B10 10 54, o6 B10 10 55, o6 B10 10 56, o6 B10 10 57, o6 B10 10 58, o6 B10 10 59] = true := by kernel_rfl
theorem gB10 : ∃ t : ST, ST.Ok Tryz.prog t ∧ t.find 6 = tabS.find 6 ∧ ∀ i, i < 60 → o6 t 10 i = true := ⟨B10, (okT ranR10 ranP10).1, (okT ranR10 ranP10).2, all60 (o6 B10 10) g10x0 g10x1 g10x2 g10x3 g10x4 g10x5 g10x6 g10x7 g10x8 g10x9⟩
end
end Go.Proofs.YtblciblkocameaaGreat.Sx
