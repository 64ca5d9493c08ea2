/- SemBounds: 15 elements. -/
import Derived.Test.YtblciblkocameaaGreatBm
namespace Go.Proofs.YtblciblkocameaaGreat.Sx
open Go Go.Proofs.YtblciblkocameaaGreat.Ev
noncomputable section
theorem ranR14 : (eR2 49 53 15).Ran tabY 900 12 := ⟨by kernel_rfl, kR2, by kernel_rfl, by kernel_rfl⟩
theorem ranP14 : (eP2 49 53 15).Ran tabY 900 12 := ⟨by kernel_rfl, kP2, by kernel_rfl, by kernel_rfl⟩
abbrev B14 : ST := tabT (eR2 49 53 15) (eP2 49 53 15)
theorem g14x0 : AB [o6 B14 14 0, o6 B14 14 1, o6 B14 14 2, o6 B14 14 3, o6 B14 14 4, o6 B14 14 5] = true := by kernel_rfl
theorem g14x1 : AB [o6 B14 14 6, o6 B14 14 7, o6 B14 14 8, o6 B14 14 9, o6 B14 14 10, o6 B14 14 11] = true := by kernel_rfl
theorem g14x2 : AB [o6 B14 14 12, o6 B14 14 13, o6 B14 14 14, o6 B14 14 15, o6 B14 14 16, o6 B14 14 17] = true := by kernel_rfl
theorem g14x3 : AB [o6 B14 14 18, o6 B14 14 19, o6 B14 14 20, o6 B14 14 21, o6 B14 14 22, o6 B14 14 23] = true := by kernel_rfl
theorem g14x4 : AB [o6 B14 14 24, o6 B14 14 25, o6 B14 14 26, o6 B14 14 27, o6 B14 14 28, o6 B14 14 29] = true := by kernel_rfl
theorem g14x5 : AB [o6 B14 14 30, o6 B14 14 31, o6 B14 14 32, o6 B14 14 33, o6 B14 14 34, o6 B14 14 35] = true := by kernel_rfl
theorem g14x6 : AB [o6 B14 14 36, o6 B14 14 37, o6 B14 14 38, o6 B14 14 39, o6 B14 14 40, o6 B14 14 41] = true := by kernel_rfl
theorem g14x7 : AB [o6 B14 14 42, o6 B14 14 43, o6 B14 14 44, o6 B14 14 45, o6 B14 14 46, o6 B14 14 47] = true := by kernel_rfl
theorem g14x8 : AB [o6 B14 14 48, o6 B14 14 49, o6 B14 14 50, o6 B14 14 51, o6 B14 14 52, o6 B14 14 53] = true := by kernel_rfl
theorem g14x9 : AB [o6 B14 14 54, o6 B14 14 55, o6 B14 14 56, o6 B14 14 57, o6 B14 14 58, o6 B14 14 59] = true := by kernel_rfl
theorem gB14 : ∃ t : ST, ST.Ok Tryz.prog t ∧ t.find 6 = tabS.find 6 ∧ ∀ i, i < 60 → o6 t 14 i = true := ⟨B14, (okT ranR14 ranP14).1, (okT ranR14 ranP14).2, all60 (o6 B14 14) g14x0 g14x1 g14x2 g14x3 g14x4 g14x5 g14x6 g14x7 g14x8 g14x9⟩
end
end Go.Proofs.YtblciblkocameaaGreat.Sx
