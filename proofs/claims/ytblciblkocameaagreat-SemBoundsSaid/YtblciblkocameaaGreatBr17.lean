/- SemBounds: 18 elements. -/
import Derived.Test.YtblciblkocameaaGreatBm
namespace Go.Proofs.YtblciblkocameaaGreat.Sx
open Go Go.Proofs.YtblciblkocameaaGreat.Ev
noncomputable section
theorem ranR17 : (eR2 49 56 18).Ran tabY 900 12 := ⟨by kernel_rfl, kR2, by kernel_rfl, by kernel_rfl⟩
theorem ranP17 : (eP2 49 56 18).Ran tabY 900 12 := ⟨by kernel_rfl, kP2, by kernel_rfl, by kernel_rfl⟩
abbrev B17 : ST := tabT (eR2 49 56 18) (eP2 49 56 18)
theorem g17x0 : AB [o6 B17 17 0, o6 B17 17 1, o6 B17 17 2, o6 B17 17 3, o6 B17 17 4, o6 B17 17 5] = true := by kernel_rfl
theorem g17x1 : AB [o6 B17 17 6, o6 B17 17 7, o6 B17 17 8, o6 B17 17 9, o6 B17 17 10, o6 B17 17 11] = true := by kernel_rfl
theorem g17x2 : AB [o6 B17 17 12, o6 B17 17 13, o6 B17 17 14, o6 B17 17 15, o6 B17 17 16, o6 B17 17 17] = true := by kernel_rfl
theorem g17x3 : AB [o6 B17 17 18, o6 B17 17 19, o6 B17 17 20, o6 B17 17 21, o6 B17 17 22, o6 B17 17 23] = true := by kernel_rfl
theorem g17x4 : AB [o6 B17 17 24, o6 B17 17 25, o6 B17 17 26, o6 B17 17 27, o6 B17 17 28, o6 B17 17 29] = true := by kernel_rfl
theorem g17x5 : AB [o6 B17 17 30, o6 B17 17 31, o6 B17 17 32, o6 B17 17 33, o6 B17 17 34, o6 B17 17 35] = true := by kernel_rfl
theorem g17x6 : AB [o6 B17 17 36, o6 B17 17 37, o6 B17 17 38, o6 B17 17 39, o6 B17 17 40, o6 B17 17 41] = true := by kernel_rfl
theorem g17x7 : AB [o6 B17 17 42, o6 B17 17 43, o6 B17 17 44, o6 B17 17 45, o6 B17 17 46, o6 B17 17 47] = true := by kernel_rfl
theorem g17x8 : AB [o6 B17 17 48, o6 B17 17 49, o6 B17 17 50, o6 B17 17 51, o6 B17 17 52, o6 B17 17 53] = true := by kernel_rfl
theorem g17x9 : AB [o6 B17 17 54, o6 B17 17 55, o6 B17 17 56, o6 B17 17 57, o6 B17 17 58, o6 B17 17 59] = true := by kernel_rfl
theorem gB17 : ∃ t : ST, ST.Ok Tryz.prog t ∧ t.find 6 = tabS.find 6 ∧ ∀ i, i < 60 → o6 t 17 i = true := ⟨B17, (okT ranR17 ranP17).1, (okT ranR17 ranP17).2, all60 (o6 B17 17) g17x0 g17x1 g17x2 g17x3 g17x4 g17x5 g17x6 g17x7 g17x8 g17x9⟩
end
end Go.Proofs.YtblciblkocameaaGreat.Sx
