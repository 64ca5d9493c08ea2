/- CheckOperators: the kernel's runs, part 0. -/
import Derived.Test.YtnpadfengpoehaaGreatDoorOu
namespace Go.Proofs.YtnpadfengpoehaaGreatDoor.Sx
open Go Go.Proofs.YtnpadfengpoehaaGreatDoor.Ev
noncomputable section
theorem gO0_0_0 (m : Int) (y z : Nat) : oO m y z 0 0 0 = true := by kernel_rfl
theorem gO0_3_0 (m : Int) (y z : Nat) : oO m y z 0 3 0 = true := by kernel_rfl
theorem gO1_2_0 (m : Int) (y z : Nat) : oO m y z 1 2 0 = true := by kernel_rfl
theorem gO2_1_0 (m : Int) (y z : Nat) : oO m y z 2 1 0 = true := by kernel_rfl
theorem gO3_0_0 (m : Int) (y z : Nat) : oO m y z 3 0 0 = true := by kernel_rfl
theorem gO3_3_0 (m : Int) (y z : Nat) : oO m y z 3 3 0 = true := by kernel_rfl
theorem gO4_2_0 (m : Int) (y z : Nat) : oO m y z 4 2 0 = true := by kernel_rfl
theorem gO5_1_0 (m : Int) (y z : Nat) : oO m y z 5 1 0 = true := by kernel_rfl
theorem gO6_0_0 (m : Int) (y z : Nat) : oO m y z 6 0 0 = true := by kernel_rfl
theorem gO6_3_0 (m : Int) (y z : Nat) : oO m y z 6 3 0 = true := by kernel_rfl
theorem gO7_2_0 (m : Int) (y z : Nat) : oO m y z 7 2 0 = true := by kernel_rfl
theorem gO8_1_0 (m : Int) (y z : Nat) : oO m y z 8 1 0 = true := by kernel_rfl
theorem gO9_0_0 (m : Int) (y z : Nat) : oO m y z 9 0 0 = true := by kernel_rfl
theorem gO9_3_0 (m : Int) (y z : Nat) : oO m y z 9 3 0 = true := by kernel_rfl
theorem gO10_2_0 (m : Int) (y z : Nat) : oO m y z 10 2 0 = true := by kernel_rfl
theorem gO11_1_0 (m : Int) (y z : Nat) : oO m y z 11 1 0 = true := by kernel_rfl
theorem gO12_0_0 (m : Int) (y z : Nat) : oO m y z 12 0 0 = true := by kernel_rfl
theorem gO12_3_0 (m : Int) (y z : Nat) : oO m y z 12 3 0 = true := by kernel_rfl
theorem gO13_2_0 (m : Int) (y z : Nat) : oO m y z 13 2 0 = true := by kernel_rfl
theorem gO14_1_0 (m : Int) (y z : Nat) : oO m y z 14 1 0 = true := by kernel_rfl
theorem gO15_0_0 (m : Int) (y z : Nat) : oO m y z 15 0 0 = true := by kernel_rfl
theorem gO15_3_0 (m : Int) (y z : Nat) : oO m y z 15 3 0 = true := by kernel_rfl
theorem gO16_2_0 (m : Int) (y z : Nat) : oO m y z 16 2 0 = true := by kernel_rfl
theorem gO17_1_0 (m : Int) (y z : Nat) : oO m y z 17 1 0 = true := by kernel_rfl
end
end Go.Proofs.YtnpadfengpoehaaGreatDoor.Sx
