/- CheckOperators: the kernel's runs, part 5. -/
import Derived.Test.YtnpadfengpoehaaGreatDoorOu
namespace Go.Proofs.YtnpadfengpoehaaGreatDoor.Sx
open Go Go.Proofs.YtnpadfengpoehaaGreatDoor.Ev
noncomputable section
theorem gO0_1_1 (m : Int) (y z : Nat) : oO m y z 0 1 1 = true := by kernel_rfl
theorem gO1_0_1 (m : Int) (y z : Nat) : oO m y z 1 0 1 = true := by kernel_rfl
theorem gO1_3_1 (m : Int) (y z : Nat) : oO m y z 1 3 1 = true := by kernel_rfl
theorem gO2_2_1 (m : Int) (y z : Nat) : oO m y z 2 2 1 = true := by kernel_rfl
theorem gO3_1_1 (m : Int) (y z : Nat) : oO m y z 3 1 1 = true := by kernel_rfl
theorem gO4_0_1 (m : Int) (y z : Nat) : oO m y z 4 0 1 = true := by kernel_rfl
theorem gO4_3_1 (m : Int) (y z : Nat) : oO m y z 4 3 1 = true := by kernel_rfl
theorem gO5_2_1 (m : Int) (y z : Nat) : oO m y z 5 2 1 = true := by kernel_rfl
theorem gO6_1_1 (m : Int) (y z : Nat) : oO m y z 6 1 1 = true := by kernel_rfl
theorem gO7_0_1 (m : Int) (y z : Nat) : oO m y z 7 0 1 = true := by kernel_rfl
theorem gO7_3_1 (m : Int) (y z : Nat) : oO m y z 7 3 1 = true := by kernel_rfl
theorem gO8_2_1 (m : Int) (y z : Nat) : oO m y z 8 2 1 = true := by kernel_rfl
theorem gO9_1_1 (m : Int) (y z : Nat) : oO m y z 9 1 1 = true := by kernel_rfl
theorem gO10_0_1 (m : Int) (y z : Nat) : oO m y z 10 0 1 = true := by kernel_rfl
theorem gO10_3_1 (m : Int) (y z : Nat) : oO m y z 10 3 1 = true := by kernel_rfl
theorem gO11_2_1 (m : Int) (y z : Nat) : oO m y z 11 2 1 = true := by kernel_rfl
theorem gO12_1_1 (m : Int) (y z : Nat) : oO m y z 12 1 1 = true := by kernel_rfl
theorem gO13_0_1 (m : Int) (y z : Nat) : oO m y z 13 0 1 = true := by kernel_rfl
theorem gO13_3_1 (m : Int) (y z : Nat) : oO m y z 13 3 1 = true := by kernel_rfl
theorem gO14_2_1 (m : Int) (y z : Nat) : oO m y z 14 2 1 = true := by kernel_rfl
theorem gO15_1_1 (m : Int) (y z : Nat) : oO m y z 15 1 1 = true := by kernel_rfl
theorem gO16_0_1 (m : Int) (y z : Nat) : oO m y z 16 0 1 = true := by kernel_rfl
theorem gO16_3_1 (m : Int) (y z : Nat) : oO m y z 16 3 1 = true := by kernel_rfl
theorem gO17_2_1 (m : Int) (y z : Nat) : oO m y z 17 2 1 = true := by kernel_rfl
end
end Go.Proofs.YtnpadfengpoehaaGreatDoor.Sx
