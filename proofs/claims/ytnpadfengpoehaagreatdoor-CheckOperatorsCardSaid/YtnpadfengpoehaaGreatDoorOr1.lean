/- CheckOperators: the kernel's runs, part 1. -/
import Derived.Test.YtnpadfengpoehaaGreatDoorOu
namespace Go.Proofs.YtnpadfengpoehaaGreatDoor.Sx
open Go Go.Proofs.YtnpadfengpoehaaGreatDoor.Ev
noncomputable section
theorem gO0_0_1 (m : Int) (y z : Nat) : oO m y z 0 0 1 = true := by kernel_rfl
theorem gO0_3_1 (m : Int) (y z : Nat) : oO m y z 0 3 1 = true := by kernel_rfl
theorem gO1_2_1 (m : Int) (y z : Nat) : oO m y z 1 2 1 = true := by kernel_rfl
theorem gO2_1_1 (m : Int) (y z : Nat) : oO m y z 2 1 1 = true := by kernel_rfl
theorem gO3_0_1 (m : Int) (y z : Nat) : oO m y z 3 0 1 = true := by kernel_rfl
theorem gO3_3_1 (m : Int) (y z : Nat) : oO m y z 3 3 1 = true := by kernel_rfl
theorem gO4_2_1 (m : Int) (y z : Nat) : oO m y z 4 2 1 = true := by kernel_rfl
theorem gO5_1_1 (m : Int) (y z : Nat) : oO m y z 5 1 1 = true := by kernel_rfl
theorem gO6_0_1 (m : Int) (y z : Nat) : oO m y z 6 0 1 = true := by kernel_rfl
theorem gO6_3_1 (m : Int) (y z : Nat) : oO m y z 6 3 1 = true := by kernel_rfl
theorem gO7_2_1 (m : Int) (y z : Nat) : oO m y z 7 2 1 = true := by kernel_rfl
theorem gO8_1_1 (m : Int) (y z : Nat) : oO m y z 8 1 1 = true := by kernel_rfl
theorem gO9_0_1 (m : Int) (y z : Nat) : oO m y z 9 0 1 = true := by kernel_rfl
theorem gO9_3_1 (m : Int) (y z : Nat) : oO m y z 9 3 1 = true := by kernel_rfl
theorem gO10_2_1 (m : Int) (y z : Nat) : oO m y z 10 2 1 = true := by kernel_rfl
theorem gO11_1_1 (m : Int) (y z : Nat) : oO m y z 11 1 1 = true := by kernel_rfl
theorem gO12_0_1 (m : Int) (y z : Nat) : oO m y z 12 0 1 = true := by kernel_rfl
theorem gO12_3_1 (m : Int) (y z : Nat) : oO m y z 12 3 1 = true := by kernel_rfl
theorem gO13_2_1 (m : Int) (y z : Nat) : oO m y z 13 2 1 = true := by kernel_rfl
theorem gO14_1_1 (m : Int) (y z : Nat) : oO m y z 14 1 1 = true := by kernel_rfl
theorem gO15_0_1 (m : Int) (y z : Nat) : oO m y z 15 0 1 = true := by kernel_rfl
theorem gO15_3_1 (m : Int) (y z : Nat) : oO m y z 15 3 1 = true := by kernel_rfl
theorem gO16_2_1 (m : Int) (y z : Nat) : oO m y z 16 2 1 = true := by kernel_rfl
theorem gO17_1_1 (m : Int) (y z : Nat) : oO m y z 17 1 1 = true := by kernel_rfl
end
end Go.Proofs.YtnpadfengpoehaaGreatDoor.Sx
