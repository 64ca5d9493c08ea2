/- CheckOperators: the kernel's runs, part 10. -/
import Derived.Test.YtnpadfengpoehaaGreatDoorOu
namespace Go.Proofs.YtnpadfengpoehaaGreatDoor.Sx
open Go Go.Proofs.YtnpadfengpoehaaGreatDoor.Ev
noncomputable section
theorem gO0_2_2 (m : Int) (y z : Nat) : oO m y z 0 2 2 = true := by kernel_rfl
theorem gO1_1_2 (m : Int) (y z : Nat) : oO m y z 1 1 2 = true := by kernel_rfl
theorem gO2_0_2 (m : Int) (y z : Nat) : oO m y z 2 0 2 = true := by kernel_rfl
theorem gO2_3_2 (m : Int) (y z : Nat) : oO m y z 2 3 2 = true := by kernel_rfl
theorem gO3_2_2 (m : Int) (y z : Nat) : oO m y z 3 2 2 = true := by kernel_rfl
theorem gO4_1_2 (m : Int) (y z : Nat) : oO m y z 4 1 2 = true := by kernel_rfl
theorem gO5_0_2 (m : Int) (y z : Nat) : oO m y z 5 0 2 = true := by kernel_rfl
theorem gO5_3_2 (m : Int) (y z : Nat) : oO m y z 5 3 2 = true := by kernel_rfl
theorem gO6_2_2 (m : Int) (y z : Nat) : oO m y z 6 2 2 = true := by kernel_rfl
theorem gO7_1_2 (m : Int) (y z : Nat) : oO m y z 7 1 2 = true := by kernel_rfl
theorem gO8_0_2 (m : Int) (y z : Nat) : oO m y z 8 0 2 = true := by kernel_rfl
theorem gO8_3_2 (m : Int) (y z : Nat) : oO m y z 8 3 2 = true := by kernel_rfl
theorem gO9_2_2 (m : Int) (y z : Nat) : oO m y z 9 2 2 = true := by kernel_rfl
theorem gO10_1_2 (m : Int) (y z : Nat) : oO m y z 10 1 2 = true := by kernel_rfl
theorem gO11_0_2 (m : Int) (y z : Nat) : oO m y z 11 0 2 = true := by kernel_rfl
theorem gO11_3_2 (m : Int) (y z : Nat) : oO m y z 11 3 2 = true := by kernel_rfl
theorem gO12_2_2 (m : Int) (y z : Nat) : oO m y z 12 2 2 = true := by kernel_rfl
theorem gO13_1_2 (m : Int) (y z : Nat) : oO m y z 13 1 2 = true := by kernel_rfl
theorem gO14_0_2 (m : Int) (y z : Nat) : oO m y z 14 0 2 = true := by kernel_rfl
theorem gO14_3_2 (m : Int) (y z : Nat) : oO m y z 14 3 2 = true := by kernel_rfl
theorem gO15_2_2 (m : Int) (y z : Nat) : oO m y z 15 2 2 = true := by kernel_rfl
theorem gO16_1_2 (m : Int) (y z : Nat) : oO m y z 16 1 2 = true := by kernel_rfl
theorem gO17_0_2 (m : Int) (y z : Nat) : oO m y z 17 0 2 = true := by kernel_rfl
theorem gO17_3_2 (m : Int) (y z : Nat) : oO m y z 17 3 2 = true := by kernel_rfl
end
end Go.Proofs.YtnpadfengpoehaaGreatDoor.Sx
