/- SemBounds: 1 elements. -/
import Derived.Test.YtblciblkocameaaGreatBm
namespace Go.Proofs.YtblciblkocameaaGreat.Sx
open Go Go.Proofs.YtblciblkocameaaGreat.Ev
noncomputable section
theorem ranR0 : (eR1 49 1).Ran tabY 900 12 := ⟨by kernel_rfl, kR1, by kernel_rfl, by kernel_rfl⟩
theorem ranP0 : (eP1 49 1).Ran tabY 900 12 := ⟨by kernel_rfl, kP1, by kernel_rfl, by kernel_rfl⟩
abbrev B0 : ST := tabT (eR1 49 1) (eP1 49 1)
theorem g0x0 : AB [o6 B0 0 0, o6 B0 0 1, o6 B0 0 2, o6 B0 0 3, o6 B0 0 4, o6 B0 0 5] = true := by kernel_rfl
theorem g0x1 : AB [o6 B0 0 6, o6 B0 0 7, o6 B0 0 8, o6 B0 0 9, o6 B0 0 10, o6 B0 0 11] = true := by kernel_rfl
theorem g0x2 : AB [o6 B0 0 12, o6 B0 0 13, o6 B0 0 14, o6 B0 0 15, o6 B0 0 16, o6 B0 0 17] = true := by kernel_rfl
theorem g0x3 : AB [o6 B0 0 18, o6 B0 0 19, o6 B0 0 20, o6 B0 0 21, o6 B0 0 22, o6 B0 0 23] = true := by kernel_rfl
theorem g0x4 : AB [o6 B0 0 24, o6 B0 0 25, o6 B0 0 26, o6 B0 0 27, o6 B0 0 28, o6 B0 0 29] = true := by kernel_rfl
theorem g0x5 : AB [o6 B0 0 30, o6 B0 0 31, o6 B0 0 32, o6 B0 0 33, o6 B0 0 34, o6 B0 0 35] = true := by kernel_rfl
theorem g0x6 : AB [o6 B0 0 36, o6 B0 0 37, o6 B0 0 38, o6 B0 0 39, o6 B0 0 40, o6 B0 0 41] = true := by kernel_rfl
theorem g0x7 : AB [o6 B0 0 42, o6 B0 0 43, o6 B0 0 44, o6 B0 0 45, o6 B0 0 46, o6 B0 0 47] = true := by kernel_rfl
theorem g0x8 : AB [o6 B0 0 48, o6 B0 0 49, o6 B0 0 50, o6 B0 0 51, o6 B0 0 52, o6 B0 0 53] = true := by kernel_rfl
theorem g0x9 : AB [o6 B0 0 54, o6 B0 0 55, o6 B0 0 56, o6 B0 0 57, o6 B0 0 58, o6 B0 0 59] = true := by kernel_rfl
theorem gB0 : ∃ t : ST, ST.Ok Tryz.prog t ∧ t.find 6 = tabS.find 6 ∧ ∀ i, i < 60 → o6 t 0 i = true := ⟨B0, (okT ranR0 ranP0).1, (okT ranR0 ranP0).2, all60 (o6 B0 0) g0x0 g0x1 g0x2 g0x3 g0x4 g0x5 g0x6 g0x7 g0x8 g0x9⟩
end
end Go.Proofs.YtblciblkocameaaGreat.Sx
