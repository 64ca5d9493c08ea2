/- CheckOperators: the kernel's runs, part 9. -/
import Derived.Test.YtnpadfengpoehaaGreatDoorOu
namespace Go.Proofs.YtnpadfengpoehaaGreatDoor.Sx
open Go Go.Proofs.YtnpadfengpoehaaGreatDoor.Ev
noncomputable section
theorem gO0_2_1 (m : Int) (y z : Nat) : oO m y z 0 2 1 = true := by kernel_rfl
theorem gO1_1_1 (m : Int) (y z : Nat) : oO m y z 1 1 1 = true := by kernel_rfl
theorem gO2_0_1 (m : Int) (y z : Nat) : oO m y z 2 0 1 = true := by kernel_rfl
theorem gO2_3_1 (m : Int) (y z : Nat) : oO m y z 2 3 1 = true := by kernel_rfl
theorem gO3_2_1 (m : Int) (y z : Nat) : oO m y z 3 2 1 = true := by kernel_rfl
theorem gO4_1_1 (m : Int) (y z : Nat) : oO m y z 4 1 1 = true := by kernel_rfl
theorem gO5_0_1 (m : Int) (y z : Nat) : oO m y z 5 0 1 = true := by kernel_rfl
theorem gO5_3_1 (m : Int) (y z : Nat) : oO m y z 5 3 1 = true := by kernel_rfl
theorem gO6_2_1 (m : Int) (y z : Nat) : oO m y z 6 2 1 = true := by kernel_rfl
theorem gO7_1_1 (m : Int) (y z : Nat) : oO m y z 7 1 1 = true := by kernel_rfl
theorem gO8_0_1 (m : Int) (y z : Nat) : oO m y z 8 0 1 = true := by kernel_rfl
theorem gO8_3_1 (m : Int) (y z : Nat) : oO m y z 8 3 1 = true := by kernel_rfl
theorem gO9_2_1 (m : Int) (y z : Nat) : oO m y z 9 2 1 = true := by kernel_rfl
theorem gO10_1_1 (m : Int) (y z : Nat) : oO m y z 10 1 1 = true := by kernel_rfl
theorem gO11_0_1 (m : Int) (y z : Nat) : oO m y z 11 0 1 = true := by kernel_rfl
theorem gO11_3_1 (m : Int) (y z : Nat) : oO m y z 11 3 1 = true := by kernel_rfl
theorem gO12_2_1 (m : Int) (y z : Nat) : oO m y z 12 2 1 = true := by kernel_rfl
theorem gO13_1_1 (m : Int) (y z : Nat) : oO m y z 13 1 1 = true := by kernel_rfl
theorem gO14_0_1 (m : Int) (y z : Nat) : oO m y z 14 0 1 = true := by kernel_rfl
theorem gO14_3_1 (m : Int) (y z : Nat) : oO m y z 14 3 1 = true := by kernel_rfl
theorem gO15_2_1 (m : Int) (y z : Nat) : oO m y z 15 2 1 = true := by kernel_rfl
theorem gO16_1_1 (m : Int) (y z : Nat) : oO m y z 16 1 1 = true := by kernel_rfl
theorem gO17_0_1 (m : Int) (y z : Nat) : oO m y z 17 0 1 = true := by kernel_rfl
theorem gO17_3_1 (m : Int) (y z : Nat) : oO m y z 17 3 1 = true := by kernel_rfl
end
end Go.Proofs.YtnpadfengpoehaaGreatDoor.Sx
