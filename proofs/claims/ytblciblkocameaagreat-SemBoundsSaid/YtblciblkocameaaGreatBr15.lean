/- SemBounds: 16 elements. -/
import Derived.Test.YtblciblkocameaaGreatBm
namespace Go.Proofs.YtblciblkocameaaGreat.Sx
open Go Go.Proofs.YtblciblkocameaaGreat.Ev
noncomputable section
theorem ranR15 : (eR2 49 54 16).Ran tabY 900 12 := ⟨by kernel_rfl, kR2, by kernel_rfl, by kernel_rfl⟩
theorem ranP15 : (eP2 49 54 16).Ran tabY 900 12 := ⟨by kernel_rfl, kP2, by kernel_rfl, by kernel_rfl⟩
abbrev B15 : ST := tabT (eR2 49 54 16) (eP2 49 54 16)
theorem g15x0 : AB [o6 B15 15 0, o6 B15 15 1, o6 B15 15 2, o6 B15 15 3, o6 B15 15 4, o6 B15 15 5] = true := by kernel_rfl
theorem g15x1 : AB [o6 B15 15 6, o6 B15 15 7, o6 B15 15 8, o6 B15 15 9, o6 B15 15 10, o6 B15 15 11] = true := by kernel_rfl
theorem g15x2 : AB [o6 B15 15 12, o6 B15 15 13, o6 B15 15 14, o6 B15 15 15, o6 B15 15 16, o6 B15 15 17] = true := by kernel_rfl
theorem g15x3 : AB [o6 B15 15 18, o6 B15 15 19, o6 B15 15 20, o6 B15 15 21, o6 B15 15 22, o6 B15 15 23] = true := by kernel_rfl
theorem g15x4 : AB [o6 B15 15 24, o6 B15 15 25, o6 B15 15 26, o6 B15 15 27, o6 B15 15 28, o6 B15 15 29] = true := by kernel_rfl
theorem g15x5 : AB [o6 B15 15 30, o6 B15 15 31, o6 B15 15 32, o6 B15 15 33, o6 B15 15 34, o6 B15 15 35] = true := by kernel_rfl
theorem g15x6 : AB [o6 B15 15 36, o6 B15 15 37, o6 B15 15 38, o6 B15 15 39, o6 B15 15 40, o6 B15 15 41] = true := by kernel_rfl
theorem g15x7 : AB [o6 B15 15 42, o6 B15 15 43, o6 B15 15 44, o6 B15 15 45, o6 B15 15 46, o6 B15 15 47] = true := by kernel_rfl
theorem g15x8 : AB [o6 B15 15 48, o6 B15 15 49, o6 B15 15 50, o6 B15 15 51, o6 B15 15 52, o6 B15 15 53] = true := by kernel_rfl
theorem g15x9 : AB [o6 B15 15 54, o6 B15 15 55, o6 B15 15 56, o6 B15 15 57, o6 B15 15 58, o6 B15 15 59] = true := by kernel_rfl
theorem gB15 : ∃ t : ST, ST.Ok Tryz.prog t ∧ t.find 6 = tabS.find 6 ∧ ∀ i, i < 60 → o6 t 15 i = true := ⟨B15, (okT ranR15 ranP15).1, (okT ranR15 ranP15).2, all60 (o6 B15 15) g15x0 g15x1 g15x2 g15x3 g15x4 g15x5 g15x6 g15x7 g15x8 g15x9⟩
end
end Go.Proofs.YtblciblkocameaaGreat.Sx
