/- SemBounds: 14 elements. -/
import Derived.Test.YtblciblkocameaaGreatBm
namespace Go.Proofs.YtblciblkocameaaGreat.Sx
open Go Go.Proofs.YtblciblkocameaaGreat.Ev
noncomputable section
theorem ranR13 : (eR2 49 52 14).Ran tabY 900 12 := ⟨by kernel_rfl, kR2, by kernel_rfl, by kernel_rfl⟩
theorem ranP13 : (eP2 49 52 14).Ran tabY 900 12 := ⟨by kernel_rfl, kP2, by kernel_rfl, by kernel_rfl⟩
abbrev B13 : ST := tabT (eR2 49 52 14) (eP2 49 52 14)
theorem g13x0 : AB [o6 B13 13 0, o6 B13 13 1, o6 B13 13 2, o6 B13 13 3, o6 B13 13 4, o6 B13 13 5] = true := by kernel_rfl
theorem g13x1 : AB [o6 B13 13 6, o6 B13 13 7, o6 B13 13 8, o6 B13 13 9, o6 B13 13 10, o6 B13 13 11] = true := by kernel_rfl
theorem g13x2 : AB [o6 B13 13 12, o6 B13 13 13, o6 B13 13 14, o6 B13 13 15, o6 B13 13 16, o6 B13 13 17] = true := by kernel_rfl
theorem g13x3 : AB [o6 B13 13 18, o6 B13 13 19, o6 B13 13 20, o6 B13 13 21, o6 B13 13 22, o6 B13 13 23] = true := by kernel_rfl
theorem g13x4 : AB [o6 B13 13 24, o6 B13 13 25, o6 B13 13 26, o6 B13 13 27, o6 B13 13 28, o6 B13 13 29] = true := by kernel_rfl
theorem g13x5 : AB [o6 B13 13 30, o6 B13 13 31, o6 B13 13 32, o6 B13 13 33, o6 B13 13 34, o6 B13 13 35] = true := by kernel_rfl
theorem g13x6 : AB [o6 B13 13 36, o6 B13 13 37, o6 B13 13 38, o6 B13 13 39, o6 B13 13 40, o6 B13 13 41] = true := by kernel_rfl
theorem g13x7 : AB [o6 B13 13 42, o6 B13 13 43, o6 B13 13 44, o6 B13 13 45, o6 B13 13 46, o6 B13 13 47] = true := by kernel_rfl
theorem g13x8 : AB [o6 B13 13 48, o6 B13 13 49, o6 B13 13 50, o6 B13 13 51, o6 B13 13 52, o6 B13 13 53] = true := by kernel_rfl
theorem g13x9 : AB [o6 B13 13 54, o6 B13 13 55, o6 B13 13 56, o6 B13 13 57, o6 B13 13 58, o6 B13 13 59] = true := by kernel_rfl
theorem gB13 : ∃ t : ST, ST.Ok Tryz.prog t ∧ t.find 6 = tabS.find 6 ∧ ∀ i, i < 60 → o6 t 13 i = true := ⟨B13, (okT ranR13 ranP13).1, (okT ranR13 ranP13).2, all60 (o6 B13 13) g13x0 g13x1 g13x2 g13x3 g13x4 g13x5 g13x6 g13x7 g13x8 g13x9⟩
end
end Go.Proofs.YtblciblkocameaaGreat.Sx
