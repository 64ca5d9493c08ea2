/- SemBounds: 17 elements. -/
import Derived.Test.YtblciblkocameaaGreatBm
namespace Go.Proofs.YtblciblkocameaaGreat.Sx
open Go Go.Proofs.YtblciblkocameaaGreat.Ev
noncomputable section
theorem ranR16 : (eR2 49 55 17).Ran tabY 900 12 := ⟨by kernel_rfl, kR2, by kernel_rfl, by kernel_rfl⟩
theorem ranP16 : (eP2 49 55 17).Ran tabY 900 12 := ⟨by kernel_rfl, kP2, by kernel_rfl, by kernel_rfl⟩
abbrev B16 : ST := tabT (eR2 49 55 17) (eP2 49 55 17)
theorem g16x0 : AB [o6 B16 16 0, o6 B16 16 1, o6 B16 16 2, o6 B16 16 3, o6 B16 16 4, o6 B16 16 5] = true := by kernel_rfl
theorem g16x1 : AB [o6 B16 16 6, o6 B16 16 7, o6 B16 16 8, o6 B16 16 9, o6 B16 16 10, o6 B16 16 11] = true := by kernel_rfl
theorem g16x2 : AB [o6 B16 16 12, o6 B16 16 13, o6 B16 16 14, o6 B16 16 15, o6 B16 16 16, o6 B16 16 17] = true := by kernel_rfl
theorem g16x3 : AB [o6 B16 16 18, o6 B16 16 19, o6 B16 16 20, o6 B16 16 21, o6 B16 16 22, o6 B16 16 23] = true := by kernel_rfl
theorem g16x4 : AB [o6 B16 16 24, o6 B16 16 25, o6 B16 16 26, o6 B16 16 27, o6 B16 16 28, o6 B16 16 29] = true := by kernel_rfl
theorem g16x5 : AB [o6 B16 16 30, o6 B16 16 31, o6 B16 16 32, o6 B16 16 33, o6 B16 16 34, o6 B16 16 35] = true := by kernel_rfl
theorem g16x6 : AB [o6 B16 16 36, o6 B16 16 37, o6 B16 16 38, o6 B16 16 39, o6 B16 16 40, o6 B16 16 41] = true := by kernel_rfl
theorem g16x7 : AB [o6 B16 16 42, o6 B16 16 43, o6 B16 16 44, o6 B16 16 45, o6 B16 16 46, o6 B16 16 47] = true := by kernel_rfl
theorem g16x8 : AB [o6 B16 16 48, o6 B16 16 49, o6 B16 16 50, o6 B16 16 51, o6 B16 16 52, o6 B16 16 53] = true := by kernel_rfl
theorem g16x9 : AB [o6 B16 16 54, o6 B16 16 55, o6 B16 16 56, o6 B16 16 57, o6 B16 16 58, o6 B16 16 59] = true := by kernel_rfl
theorem gB16 : ∃ t : ST, ST.Ok Tryz.prog t ∧ t.find 6 = tabS.find 6 ∧ ∀ i, i < 60 → o6 t 16 i = true := ⟨B16, (okT ranR16 ranP16).1, (okT ranR16 ranP16).2, all60 (o6 B16 16) g16x0 g16x1 g16x2 g16x3 g16x4 g16x5 g16x6 g16x7 g16x8 g16x9⟩
end
end Go.Proofs.YtblciblkocameaaGreat.Sx
