/- SemBounds: 19 elements. -/
import Derived.Test.YtblciblkocameaaGreatBm
namespace Go.Proofs.YtblciblkocameaaGreat.Sx
open Go Go.Proofs.YtblciblkocameaaGreat.Ev
noncomputable section
theorem ranR18 : (eR2 49 57 19).Ran tabY 900 12 := ⟨by kernel_rfl, kR2, by kernel_rfl, by kernel_rfl⟩
theorem ranP18 : (eP2 49 57 19).Ran tabY 900 12 := ⟨by kernel_rfl, kP2, by kernel_rfl, by kernel_rfl⟩
abbrev B18 : ST := tabT (eR2 49 57 19) (eP2 49 57 19)
theorem g18x0 : AB [o6 B18 18 0, o6 B18 18 1, o6 B18 18 2, o6 B18 18 3, o6 B18 18 4, o6 B18 18 5] = true := by kernel_rfl
theorem g18x1 : AB [o6 B18 18 6, o6 B18 18 7, o6 B18 18 8, o6 B18 18 9, o6 B18 18 10, o6 B18 18 11] = true := by kernel_rfl
theorem g18x2 : AB [o6 B18 18 12, o6 B18 18 13, o6 B18 18 14, o6 B18 18 15, o6 B18 18 16, o6 B18 18 17] = true := by kernel_rfl
theorem g18x3 : AB [o6 B18 18 18, o6 B18 18 19, o6 B18 18 20, o6 B18 18 21, o6 B18 18 22, o6 B18 18 23] = true := by kernel_rfl
theorem g18x4 : AB [o6 B18 18 24, o6 B18 18 25, o6 B18 18 26, o6 B18 18 27, o6 B18 18 28, o6 B18 18 29] = true := by kernel_rfl
theorem g18x5 : AB [o6 B18 18 30, o6 B18 18 31, o6 B18 18 32, o6 B18 18 33, o6 B18 18 34, o6 B18 18 35] = true := by kernel_rfl
theorem g18x6 : AB [o6 B18 18 36, o6 B18 18 37, o6 B18 18 38, o6 B18 18 39, o6 B18 18 40, o6 B18 18 41] = true := by kernel_rfl
theorem g18x7 : AB [o6 B18 18 42, o6 B18 18 43, o6 B18 18 44, o6 B18 18 45, o6 B18 18 46, o6 B18 18 47] = true := by kernel_rfl
theorem g18x8 : AB [o6 B18 18 48, o6 B18 18 49, o6 B18 18 50, o6 B18 18 51, o6 B18 18 52, o6 B18 18 53] = true := by kernel_rfl
theorem g18x9 : AB [o6 B18 18 54, o6 B18 18 55, o6 B18 18 56, o6 B18 18 57, o6 B18 18 58, o6 B18 18 59] = true := by kernel_rfl
theorem gB18 : ∃ t : ST, ST.Ok Tryz.prog t ∧ t.find 6 = tabS.find 6 ∧ ∀ i, i < 60 → o6 t 18 i = true := ⟨B18, (okT ranR18 ranP18).1, (okT ranR18 ranP18).2, all60 (o6 B18 18) g18x0 g18x1 g18x2 g18x3 g18x4 g18x5 g18x6 g18x7 g18x8 g18x9⟩
end
end Go.Proofs.YtblciblkocameaaGreat.Sx
