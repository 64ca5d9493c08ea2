/- The law CheckOperators of chapter 12 returns true whatever its arguments, and its card is tied: the kernel runs the 288 texts that differ. No condition. -/
import Derived.Test.YtnpadfengpoehaaGreatDoorRows
import Derived.Test.YtnpadfengpoehaaGreatDoorOr0
import Derived.Test.YtnpadfengpoehaaGreatDoorOr1
import Derived.Test.YtnpadfengpoehaaGreatDoorOr2
import Derived.Test.YtnpadfengpoehaaGreatDoorOr3
import Derived.Test.YtnpadfengpoehaaGreatDoorOr4
import Derived.Test.YtnpadfengpoehaaGreatDoorOr5
import Derived.Test.YtnpadfengpoehaaGreatDoorOr6
import Derived.Test.YtnpadfengpoehaaGreatDoorOr7
import Derived.Test.YtnpadfengpoehaaGreatDoorOr8
import Derived.Test.YtnpadfengpoehaaGreatDoorOr9
import Derived.Test.YtnpadfengpoehaaGreatDoorOr10
import Derived.Test.YtnpadfengpoehaaGreatDoorOr11
import Derived.Test.YtnpadfengpoehaaGreatDoorVa
import Derived.Test.YtnpadfengpoehaaGreatDoorTie
import Derived.Test.YtnpadfengpoehaaGreatDoorCards
import Derived.LaidMore
import Derived.Lay
import Derived.SevenTiedAt
import Derived.HandedShaped
import Derived.Shelf.Vars
import Derived.WalkKit
import Derived.ProofKit
import Derived.OpenShut
import Derived.Lib.LaidU8
namespace Go.Proofs.YtnpadfengpoehaaGreatDoor.Sx
open Go Go.Proofs.YtnpadfengpoehaaGreatDoor.Ev
theorem allO0 (m : Int) (y z b c : Nat) (hb : b < 4) (hc : c < 4) : oO m y z 0 b c = true := by
  have h : b = 0 ∨ b = 1 ∨ b = 2 ∨ b = 3 := by omega
  have h' : c = 0 ∨ c = 1 ∨ c = 2 ∨ c = 3 := by omega
  rcases h with rfl | rfl | rfl | rfl <;> rcases h' with rfl | rfl | rfl | rfl
  · exact gO0_0_0 m y z
  · exact gO0_0_1 m y z
  · exact gO0_0_2 m y z
  · exact gO0_0_3 m y z
  · exact gO0_1_0 m y z
  · exact gO0_1_1 m y z
  · exact gO0_1_2 m y z
  · exact gO0_1_3 m y z
  · exact gO0_2_0 m y z
  · exact gO0_2_1 m y z
  · exact gO0_2_2 m y z
  · exact gO0_2_3 m y z
  · exact gO0_3_0 m y z
  · exact gO0_3_1 m y z
  · exact gO0_3_2 m y z
  · exact gO0_3_3 m y z
theorem allO1 (m : Int) (y z b c : Nat) (hb : b < 4) (hc : c < 4) : oO m y z 1 b c = true := by
  have h : b = 0 ∨ b = 1 ∨ b = 2 ∨ b = 3 := by omega
  have h' : c = 0 ∨ c = 1 ∨ c = 2 ∨ c = 3 := by omega
  rcases h with rfl | rfl | rfl | rfl <;> rcases h' with rfl | rfl | rfl | rfl
  · exact gO1_0_0 m y z
  · exact gO1_0_1 m y z
  · exact gO1_0_2 m y z
  · exact gO1_0_3 m y z
  · exact gO1_1_0 m y z
  · exact gO1_1_1 m y z
  · exact gO1_1_2 m y z
  · exact gO1_1_3 m y z
  · exact gO1_2_0 m y z
  · exact gO1_2_1 m y z
  · exact gO1_2_2 m y z
  · exact gO1_2_3 m y z
  · exact gO1_3_0 m y z
  · exact gO1_3_1 m y z
  · exact gO1_3_2 m y z
  · exact gO1_3_3 m y z
theorem allO2 (m : Int) (y z b c : Nat) (hb : b < 4) (hc : c < 4) : oO m y z 2 b c = true := by
  have h : b = 0 ∨ b = 1 ∨ b = 2 ∨ b = 3 := by omega
  have h' : c = 0 ∨ c = 1 ∨ c = 2 ∨ c = 3 := by omega
  rcases h with rfl | rfl | rfl | rfl <;> rcases h' with rfl | rfl | rfl | rfl
  · exact gO2_0_0 m y z
  · exact gO2_0_1 m y z
  · exact gO2_0_2 m y z
  · exact gO2_0_3 m y z
  · exact gO2_1_0 m y z
  · exact gO2_1_1 m y z
  · exact gO2_1_2 m y z
  · exact gO2_1_3 m y z
  · exact gO2_2_0 m y z
  · exact gO2_2_1 m y z
  · exact gO2_2_2 m y z
  · exact gO2_2_3 m y z
  · exact gO2_3_0 m y z
  · exact gO2_3_1 m y z
  · exact gO2_3_2 m y z
  · exact gO2_3_3 m y z
theorem allO3 (m : Int) (y z b c : Nat) (hb : b < 4) (hc : c < 4) : oO m y z 3 b c = true := by
  have h : b = 0 ∨ b = 1 ∨ b = 2 ∨ b = 3 := by omega
  have h' : c = 0 ∨ c = 1 ∨ c = 2 ∨ c = 3 := by omega
  rcases h with rfl | rfl | rfl | rfl <;> rcases h' with rfl | rfl | rfl | rfl
  · exact gO3_0_0 m y z
  · exact gO3_0_1 m y z
  · exact gO3_0_2 m y z
  · exact gO3_0_3 m y z
  · exact gO3_1_0 m y z
  · exact gO3_1_1 m y z
  · exact gO3_1_2 m y z
  · exact gO3_1_3 m y z
  · exact gO3_2_0 m y z
  · exact gO3_2_1 m y z
  · exact gO3_2_2 m y z
  · exact gO3_2_3 m y z
  · exact gO3_3_0 m y z
  · exact gO3_3_1 m y z
  · exact gO3_3_2 m y z
  · exact gO3_3_3 m y z
theorem allO4 (m : Int) (y z b c : Nat) (hb : b < 4) (hc : c < 4) : oO m y z 4 b c = true := by
  have h : b = 0 ∨ b = 1 ∨ b = 2 ∨ b = 3 := by omega
  have h' : c = 0 ∨ c = 1 ∨ c = 2 ∨ c = 3 := by omega
  rcases h with rfl | rfl | rfl | rfl <;> rcases h' with rfl | rfl | rfl | rfl
  · exact gO4_0_0 m y z
  · exact gO4_0_1 m y z
  · exact gO4_0_2 m y z
  · exact gO4_0_3 m y z
  · exact gO4_1_0 m y z
  · exact gO4_1_1 m y z
  · exact gO4_1_2 m y z
  · exact gO4_1_3 m y z
  · exact gO4_2_0 m y z
  · exact gO4_2_1 m y z
  · exact gO4_2_2 m y z
  · exact gO4_2_3 m y z
  · exact gO4_3_0 m y z
  · exact gO4_3_1 m y z
  · exact gO4_3_2 m y z
  · exact gO4_3_3 m y z
theorem allO5 (m : Int) (y z b c : Nat) (hb : b < 4) (hc : c < 4) : oO m y z 5 b c = true := by
  have h : b = 0 ∨ b = 1 ∨ b = 2 ∨ b = 3 := by omega
  have h' : c = 0 ∨ c = 1 ∨ c = 2 ∨ c = 3 := by omega
  rcases h with rfl | rfl | rfl | rfl <;> rcases h' with rfl | rfl | rfl | rfl
  · exact gO5_0_0 m y z
  · exact gO5_0_1 m y z
  · exact gO5_0_2 m y z
  · exact gO5_0_3 m y z
  · exact gO5_1_0 m y z
  · exact gO5_1_1 m y z
  · exact gO5_1_2 m y z
  · exact gO5_1_3 m y z
  · exact gO5_2_0 m y z
  · exact gO5_2_1 m y z
  · exact gO5_2_2 m y z
  · exact gO5_2_3 m y z
  · exact gO5_3_0 m y z
  · exact gO5_3_1 m y z
  · exact gO5_3_2 m y z
  · exact gO5_3_3 m y z
theorem allO6 (m : Int) (y z b c : Nat) (hb : b < 4) (hc : c < 4) : oO m y z 6 b c = true := by
  have h : b = 0 ∨ b = 1 ∨ b = 2 ∨ b = 3 := by omega
  have h' : c = 0 ∨ c = 1 ∨ c = 2 ∨ c = 3 := by omega
  rcases h with rfl | rfl | rfl | rfl <;> rcases h' with rfl | rfl | rfl | rfl
  · exact gO6_0_0 m y z
  · exact gO6_0_1 m y z
  · exact gO6_0_2 m y z
  · exact gO6_0_3 m y z
  · exact gO6_1_0 m y z
  · exact gO6_1_1 m y z
  · exact gO6_1_2 m y z
  · exact gO6_1_3 m y z
  · exact gO6_2_0 m y z
  · exact gO6_2_1 m y z
  · exact gO6_2_2 m y z
  · exact gO6_2_3 m y z
  · exact gO6_3_0 m y z
  · exact gO6_3_1 m y z
  · exact gO6_3_2 m y z
  · exact gO6_3_3 m y z
theorem allO7 (m : Int) (y z b c : Nat) (hb : b < 4) (hc : c < 4) : oO m y z 7 b c = true := by
  have h : b = 0 ∨ b = 1 ∨ b = 2 ∨ b = 3 := by omega
  have h' : c = 0 ∨ c = 1 ∨ c = 2 ∨ c = 3 := by omega
  rcases h with rfl | rfl | rfl | rfl <;> rcases h' with rfl | rfl | rfl | rfl
  · exact gO7_0_0 m y z
  · exact gO7_0_1 m y z
  · exact gO7_0_2 m y z
  · exact gO7_0_3 m y z
  · exact gO7_1_0 m y z
  · exact gO7_1_1 m y z
  · exact gO7_1_2 m y z
  · exact gO7_1_3 m y z
  · exact gO7_2_0 m y z
  · exact gO7_2_1 m y z
  · exact gO7_2_2 m y z
  · exact gO7_2_3 m y z
  · exact gO7_3_0 m y z
  · exact gO7_3_1 m y z
  · exact gO7_3_2 m y z
  · exact gO7_3_3 m y z
theorem allO8 (m : Int) (y z b c : Nat) (hb : b < 4) (hc : c < 4) : oO m y z 8 b c = true := by
  have h : b = 0 ∨ b = 1 ∨ b = 2 ∨ b = 3 := by omega
  have h' : c = 0 ∨ c = 1 ∨ c = 2 ∨ c = 3 := by omega
  rcases h with rfl | rfl | rfl | rfl <;> rcases h' with rfl | rfl | rfl | rfl
  · exact gO8_0_0 m y z
  · exact gO8_0_1 m y z
  · exact gO8_0_2 m y z
  · exact gO8_0_3 m y z
  · exact gO8_1_0 m y z
  · exact gO8_1_1 m y z
  · exact gO8_1_2 m y z
  · exact gO8_1_3 m y z
  · exact gO8_2_0 m y z
  · exact gO8_2_1 m y z
  · exact gO8_2_2 m y z
  · exact gO8_2_3 m y z
  · exact gO8_3_0 m y z
  · exact gO8_3_1 m y z
  · exact gO8_3_2 m y z
  · exact gO8_3_3 m y z
theorem allO9 (m : Int) (y z b c : Nat) (hb : b < 4) (hc : c < 4) : oO m y z 9 b c = true := by
  have h : b = 0 ∨ b = 1 ∨ b = 2 ∨ b = 3 := by omega
  have h' : c = 0 ∨ c = 1 ∨ c = 2 ∨ c = 3 := by omega
  rcases h with rfl | rfl | rfl | rfl <;> rcases h' with rfl | rfl | rfl | rfl
  · exact gO9_0_0 m y z
  · exact gO9_0_1 m y z
  · exact gO9_0_2 m y z
  · exact gO9_0_3 m y z
  · exact gO9_1_0 m y z
  · exact gO9_1_1 m y z
  · exact gO9_1_2 m y z
  · exact gO9_1_3 m y z
  · exact gO9_2_0 m y z
  · exact gO9_2_1 m y z
  · exact gO9_2_2 m y z
  · exact gO9_2_3 m y z
  · exact gO9_3_0 m y z
  · exact gO9_3_1 m y z
  · exact gO9_3_2 m y z
  · exact gO9_3_3 m y z
theorem allO10 (m : Int) (y z b c : Nat) (hb : b < 4) (hc : c < 4) : oO m y z 10 b c = true := by
  have h : b = 0 ∨ b = 1 ∨ b = 2 ∨ b = 3 := by omega
  have h' : c = 0 ∨ c = 1 ∨ c = 2 ∨ c = 3 := by omega
  rcases h with rfl | rfl | rfl | rfl <;> rcases h' with rfl | rfl | rfl | rfl
  · exact gO10_0_0 m y z
  · exact gO10_0_1 m y z
  · exact gO10_0_2 m y z
  · exact gO10_0_3 m y z
  · exact gO10_1_0 m y z
  · exact gO10_1_1 m y z
  · exact gO10_1_2 m y z
  · exact gO10_1_3 m y z
  · exact gO10_2_0 m y z
  · exact gO10_2_1 m y z
  · exact gO10_2_2 m y z
  · exact gO10_2_3 m y z
  · exact gO10_3_0 m y z
  · exact gO10_3_1 m y z
  · exact gO10_3_2 m y z
  · exact gO10_3_3 m y z
theorem allO11 (m : Int) (y z b c : Nat) (hb : b < 4) (hc : c < 4) : oO m y z 11 b c = true := by
  have h : b = 0 ∨ b = 1 ∨ b = 2 ∨ b = 3 := by omega
  have h' : c = 0 ∨ c = 1 ∨ c = 2 ∨ c = 3 := by omega
  rcases h with rfl | rfl | rfl | rfl <;> rcases h' with rfl | rfl | rfl | rfl
  · exact gO11_0_0 m y z
  · exact gO11_0_1 m y z
  · exact gO11_0_2 m y z
  · exact gO11_0_3 m y z
  · exact gO11_1_0 m y z
  · exact gO11_1_1 m y z
  · exact gO11_1_2 m y z
  · exact gO11_1_3 m y z
  · exact gO11_2_0 m y z
  · exact gO11_2_1 m y z
  · exact gO11_2_2 m y z
  · exact gO11_2_3 m y z
  · exact gO11_3_0 m y z
  · exact gO11_3_1 m y z
  · exact gO11_3_2 m y z
  · exact gO11_3_3 m y z
theorem allO12 (m : Int) (y z b c : Nat) (hb : b < 4) (hc : c < 4) : oO m y z 12 b c = true := by
  have h : b = 0 ∨ b = 1 ∨ b = 2 ∨ b = 3 := by omega
  have h' : c = 0 ∨ c = 1 ∨ c = 2 ∨ c = 3 := by omega
  rcases h with rfl | rfl | rfl | rfl <;> rcases h' with rfl | rfl | rfl | rfl
  · exact gO12_0_0 m y z
  · exact gO12_0_1 m y z
  · exact gO12_0_2 m y z
  · exact gO12_0_3 m y z
  · exact gO12_1_0 m y z
  · exact gO12_1_1 m y z
  · exact gO12_1_2 m y z
  · exact gO12_1_3 m y z
  · exact gO12_2_0 m y z
  · exact gO12_2_1 m y z
  · exact gO12_2_2 m y z
  · exact gO12_2_3 m y z
  · exact gO12_3_0 m y z
  · exact gO12_3_1 m y z
  · exact gO12_3_2 m y z
  · exact gO12_3_3 m y z
theorem allO13 (m : Int) (y z b c : Nat) (hb : b < 4) (hc : c < 4) : oO m y z 13 b c = true := by
  have h : b = 0 ∨ b = 1 ∨ b = 2 ∨ b = 3 := by omega
  have h' : c = 0 ∨ c = 1 ∨ c = 2 ∨ c = 3 := by omega
  rcases h with rfl | rfl | rfl | rfl <;> rcases h' with rfl | rfl | rfl | rfl
  · exact gO13_0_0 m y z
  · exact gO13_0_1 m y z
  · exact gO13_0_2 m y z
  · exact gO13_0_3 m y z
  · exact gO13_1_0 m y z
  · exact gO13_1_1 m y z
  · exact gO13_1_2 m y z
  · exact gO13_1_3 m y z
  · exact gO13_2_0 m y z
  · exact gO13_2_1 m y z
  · exact gO13_2_2 m y z
  · exact gO13_2_3 m y z
  · exact gO13_3_0 m y z
  · exact gO13_3_1 m y z
  · exact gO13_3_2 m y z
  · exact gO13_3_3 m y z
theorem allO14 (m : Int) (y z b c : Nat) (hb : b < 4) (hc : c < 4) : oO m y z 14 b c = true := by
  have h : b = 0 ∨ b = 1 ∨ b = 2 ∨ b = 3 := by omega
  have h' : c = 0 ∨ c = 1 ∨ c = 2 ∨ c = 3 := by omega
  rcases h with rfl | rfl | rfl | rfl <;> rcases h' with rfl | rfl | rfl | rfl
  · exact gO14_0_0 m y z
  · exact gO14_0_1 m y z
  · exact gO14_0_2 m y z
  · exact gO14_0_3 m y z
  · exact gO14_1_0 m y z
  · exact gO14_1_1 m y z
  · exact gO14_1_2 m y z
  · exact gO14_1_3 m y z
  · exact gO14_2_0 m y z
  · exact gO14_2_1 m y z
  · exact gO14_2_2 m y z
  · exact gO14_2_3 m y z
  · exact gO14_3_0 m y z
  · exact gO14_3_1 m y z
  · exact gO14_3_2 m y z
  · exact gO14_3_3 m y z
theorem allO15 (m : Int) (y z b c : Nat) (hb : b < 4) (hc : c < 4) : oO m y z 15 b c = true := by
  have h : b = 0 ∨ b = 1 ∨ b = 2 ∨ b = 3 := by omega
  have h' : c = 0 ∨ c = 1 ∨ c = 2 ∨ c = 3 := by omega
  rcases h with rfl | rfl | rfl | rfl <;> rcases h' with rfl | rfl | rfl | rfl
  · exact gO15_0_0 m y z
  · exact gO15_0_1 m y z
  · exact gO15_0_2 m y z
  · exact gO15_0_3 m y z
  · exact gO15_1_0 m y z
  · exact gO15_1_1 m y z
  · exact gO15_1_2 m y z
  · exact gO15_1_3 m y z
  · exact gO15_2_0 m y z
  · exact gO15_2_1 m y z
  · exact gO15_2_2 m y z
  · exact gO15_2_3 m y z
  · exact gO15_3_0 m y z
  · exact gO15_3_1 m y z
  · exact gO15_3_2 m y z
  · exact gO15_3_3 m y z
theorem allO16 (m : Int) (y z b c : Nat) (hb : b < 4) (hc : c < 4) : oO m y z 16 b c = true := by
  have h : b = 0 ∨ b = 1 ∨ b = 2 ∨ b = 3 := by omega
  have h' : c = 0 ∨ c = 1 ∨ c = 2 ∨ c = 3 := by omega
  rcases h with rfl | rfl | rfl | rfl <;> rcases h' with rfl | rfl | rfl | rfl
  · exact gO16_0_0 m y z
  · exact gO16_0_1 m y z
  · exact gO16_0_2 m y z
  · exact gO16_0_3 m y z
  · exact gO16_1_0 m y z
  · exact gO16_1_1 m y z
  · exact gO16_1_2 m y z
  · exact gO16_1_3 m y z
  · exact gO16_2_0 m y z
  · exact gO16_2_1 m y z
  · exact gO16_2_2 m y z
  · exact gO16_2_3 m y z
  · exact gO16_3_0 m y z
  · exact gO16_3_1 m y z
  · exact gO16_3_2 m y z
  · exact gO16_3_3 m y z
theorem allO17 (m : Int) (y z b c : Nat) (hb : b < 4) (hc : c < 4) : oO m y z 17 b c = true := by
  have h : b = 0 ∨ b = 1 ∨ b = 2 ∨ b = 3 := by omega
  have h' : c = 0 ∨ c = 1 ∨ c = 2 ∨ c = 3 := by omega
  rcases h with rfl | rfl | rfl | rfl <;> rcases h' with rfl | rfl | rfl | rfl
  · exact gO17_0_0 m y z
  · exact gO17_0_1 m y z
  · exact gO17_0_2 m y z
  · exact gO17_0_3 m y z
  · exact gO17_1_0 m y z
  · exact gO17_1_1 m y z
  · exact gO17_1_2 m y z
  · exact gO17_1_3 m y z
  · exact gO17_2_0 m y z
  · exact gO17_2_1 m y z
  · exact gO17_2_2 m y z
  · exact gO17_2_3 m y z
  · exact gO17_3_0 m y z
  · exact gO17_3_1 m y z
  · exact gO17_3_2 m y z
  · exact gO17_3_3 m y z
theorem allO (m : Int) (y z a b c : Nat) (ha : a < 18) (hb : b < 4) (hc : c < 4) : oO m y z a b c = true := by
  have h : a = 0 ∨ a = 1 ∨ a = 2 ∨ a = 3 ∨ a = 4 ∨ a = 5 ∨ a = 6 ∨ a = 7 ∨ a = 8 ∨ a = 9 ∨ a = 10 ∨ a = 11 ∨ a = 12 ∨ a = 13 ∨ a = 14 ∨ a = 15 ∨ a = 16 ∨ a = 17 := by omega
  rcases h with rfl | rfl | rfl | rfl | rfl | rfl | rfl | rfl | rfl | rfl | rfl | rfl | rfl | rfl | rfl | rfl | rfl | rfl
  · exact allO0 m y z b c hb hc
  · exact allO1 m y z b c hb hc
  · exact allO2 m y z b c hb hc
  · exact allO3 m y z b c hb hc
  · exact allO4 m y z b c hb hc
  · exact allO5 m y z b c hb hc
  · exact allO6 m y z b c hb hc
  · exact allO7 m y z b c hb hc
  · exact allO8 m y z b c hb hc
  · exact allO9 m y z b c hb hc
  · exact allO10 m y z b c hb hc
  · exact allO11 m y z b c hb hc
  · exact allO12 m y z b c hb hc
  · exact allO13 m y z b c hb hc
  · exact allO14 m y z b c hb hc
  · exact allO15 m y z b c hb hc
  · exact allO16 m y z b c hb hc
  · exact allO17 m y z b c hb hc
theorem runO (m : Int) (x y z : Nat) : isTrue (SF tabA 1000 6 [.int .u8 (.ofNat x), .agg [.int .u8 (.ofNat y), .int .u8 (.ofNat z)]] (gH m) .no) = true := by
  rw [enterO]
  exact allO m y z (x % 18) (y % 4) (z % 4) (Nat.mod_lt _ (by omega)) (Nat.mod_lt _ (by omega)) (Nat.mod_lt _ (by omega))
theorem nat_ofO {a : Int} (h0 : (0 : Int) ≤ a) : ∃ n : Nat, a = .ofNat n := ⟨a.toNat, by show a = ((a.toNat : Nat) : Int); omega⟩
end Go.Proofs.YtnpadfengpoehaaGreatDoor.Sx
namespace Go.Proofs.YtnpadfengpoehaaGreatDoor.checkOperators
open Go.ChangeShapes Go.WideShapes Go.ChangeAt Go.RowKit
set_option linter.unusedVariables false      -- a walk need not use every 'w<i>' (that an integer argument fits its kind)

theorem open_arr2 {H : Type} {enc : TypeId × Value → H} {P : Program} {w : World} {base : Nat} {sp : Nat → Bool} {held : Bool} {r : Reach} {b0 : Nat} {t e : TypeId} {k : IntKind} {v : Value} {d : DataW H} {ps : List MemPlace} (ht : P.underlying t = some (.array 2 e)) (he : P.underlying e = some (.int k)) (hc : P.cellsOf e = 1) (h2 : P.cellsOf t = 2)
    (hval : Value.okWide P w r b0 t v) (hd : DataW.Trod enc P w base sp held t v d ps) : ∃ a b, v = .agg #[.int k a, .int k b] ∧ d = .agg [.lit (.int k a), .lit (.int k b)] ∧ ps = [] ∧ (Lit.int k a).wf = true ∧ (Lit.int k b).wf = true := by
  simp only [Value.okWide, ht] at hval
  obtain ⟨cs, rfl, hsz, _⟩ := hval
  rw [h2] at hsz
  obtain ⟨fuel, hf⟩ := hd
  obtain ⟨xs, m, rfl, hx, hl, hn, hi⟩ := DataW.trod_array ht hf
  have f0 := hi 0 (by omega)
  have f1 := hi 1 (by omega)
  rw [hc] at f0 f1
  obtain ⟨cl⟩ := cs
  rcases cl with _ | ⟨c0, _ | ⟨c1, _ | ⟨c2, cl⟩⟩⟩ <;> simp at hsz
  rcases xs with _ | ⟨x0, _ | ⟨x1, _ | ⟨x2, xs⟩⟩⟩ <;> simp at hn
  simp [Value.cells] at f0 f1
  obtain ⟨a, e0, rfl, wa⟩ := DataW.trod_int he f0
  obtain ⟨b, e1, rfl, wb⟩ := DataW.trod_int he f1
  simp at e0 e1 hx
  subst e0 e1
  exact ⟨a, b, rfl, hx.1, hx.2, wa, wb⟩
theorem shut_arr2 {H : Type} {enc : TypeId × Value → H} {P : Program} {w : World} {base : Nat} {sp : Nat → Bool} {held : Bool} {t e : TypeId} {k : IntKind} {a b : Int} (ht : P.underlying t = some (.array 2 e)) (he : P.underlying e = some (.int k)) (hc : P.cellsOf e = 1) (h2 : P.cellsOf t = 2)
    (wa : (Lit.int k a).wf = true) (wb : (Lit.int k b).wf = true) : DataW.Trod enc P w base sp held t (.agg #[.int k a, .int k b]) (.agg [.lit (.int k a), .lit (.int k b)]) [] :=
  ⟨2, by simp [DataW.trod, Value.cells, ht, he, hc, h2, wa, wb, List.range_succ, List.mapM_cons]⟩
theorem handed_shaped {H : Type} {enc : TypeId × Value → H} {a : Assume} {C : Checked} {os : Os} {f : FuncId} {fn : Func} {s : ChangeSpec} {conds : List PathCond} {apart fresh handsOn again : Bool} {X : World → Array Value → Prop}
    (hX : ∀ (w w' : World) (args : Array Value), w.heap = w'.heap → X w args → X w' args)
    (own : ownKnob C.prog.godebug = none) (started : os.Started) (noInit : C.prog.inits.idxOf? f = none) (hfn : C.prog.funcs[f]? = some fn)
    (witness : ∃ (w : World) (tape : Tape) (i : Input), w.os = os ∧ (w.forCall tape i).Shaped C.prog ∧ i.vars = [] ∧ Input.okWide C.prog (w.forCall tape i) .any w.heap.size f i ∧
      ((s.pre enc C.prog fn conds apart (w.forCall tape i).memory i.args ∧ X (w.forCall tape i).memory i.args) ∧ sizedMet enc C.prog fn (OpenSpec.ofChange s) apart (w.forCall tape i).memory i.args) ∧ a.holds C.prog (lone (Frame.enter C.prog f i.args .normal) [] (w.forCall tape i)))
    (contract : ∀ (W : World) (base : Nat) (args : Array Value) (ds gs : List (DataW H)) (before : List MemPlace),
      (∀ (j : Nat) t v, fn.params[j]? = some t → args[j]? = some v → Value.okWide C.prog W .any base t v) →
      DataW.Whole enc C.prog fn.params.toList s.vars apart W args.toList ds gs before → W.ShapedOpen C.prog → X W args →
      Calls C.prog f args W fun e W' => ∃ v, e = .returned v ∧ s.post enc C.prog fn apart fresh handsOn again W args v W') :
    ReturnsInHanded a C os f .any (fun w args => (s.pre enc C.prog fn conds apart w args ∧ X w args) ∧ sizedMet enc C.prog fn (OpenSpec.ofChange s) apart w args) (s.post enc C.prog fn apart fresh handsOn again) := by
  refine returnsInHanded_of_calls own started noInit witness ?_
  intro w tape i _ hsh _ hok hpre hholds
  obtain ⟨_, _, _, fn', hfn', _, _, _, _, hval⟩ := hok
  have e : fn' = fn := Option.some.inj (hfn'.symm.trans hfn)
  subst e
  obtain ⟨⟨⟨ds, gs, before, hw, hc⟩, hx⟩, hz⟩ := hpre
  have hw' := DataW.Whole.of_heap (w' := w.forCall tape i) (by rfl) hw
  refine (contract (w.forCall tape i) w.heap.size i.args ds gs before hval hw' hsh (hX _ _ _ (by rfl) hx)).mono fun e W' ⟨v, he, hp⟩ => ?_
  subst he
  exact ChangeSpec.post_blind hp
set_option maxRecDepth 100000 in
theorem vars_of {W : World} (hsh : W.ShapedOpen Tryz.prog) (hlaid : laidMetH Tryz.prog Rows.checkOperatorsRow.laid W) : ∃ m lf, Ev.Vars W m lf := by
  rw [MakeChecks.laidMetH_plain _ _ _ (by kernel_rfl)] at hlaid
  obtain ⟨ps, hv, _, _⟩ := hlaid
  obtain ⟨m, hm⟩ : ∃ m, W.cell? ⟨0, 0, none⟩ = some (.int .i64 m) := cell_of_shapedOpen_int (t := 3) (zero := #[.int .i64 0]) hsh (by decide +kernel) (by kernel_rfl) rfl (by kernel_rfl) (by kernel_rfl) Tryz.underlying3
  obtain ⟨g5, t5, cs5, f5, p5, a1, a2, a3, a4⟩ := Va.laid_at (n := "internal/strconv.optimize") (d := Rows.laid_internal_strconv_optimize) hv (List.mem_of_getElem? (i := 4) rfl)
  obtain rfl : 5 = g5 := Option.some.inj ((show Tryz.prog.globalNamed "internal/strconv.optimize" = some 5 by kernel_rfl).symm.trans a1)
  obtain rfl : 4 = t5 := Option.some.inj ((show (Tryz.prog.globals[5]?).map (·.type) = some 4 by kernel_rfl).symm.trans a2)
  obtain ⟨s5, c5⟩ := Va.var_cell a1 a3
  have e5 := Va.leaf_bool Tryz.underlying4 a4
  rw [e5] at c5
  obtain ⟨g9, t9, cs9, f9, p9, a1, a2, a3, a4⟩ := Va.laid_at (n := "internal/strconv.float64info") (d := Rows.laid_internal_strconv_float64info) hv (List.mem_of_getElem? (i := 3) rfl)
  obtain rfl : 9 = g9 := Option.some.inj ((show Tryz.prog.globalNamed "internal/strconv.float64info" = some 9 by kernel_rfl).symm.trans a1)
  obtain rfl : 259 = t9 := Option.some.inj ((show (Tryz.prog.globals[9]?).map (·.type) = some 259 by kernel_rfl).symm.trans a2)
  obtain ⟨s9, c9⟩ := Va.var_cell a1 a3
  have e9 : cs9.toList = [.int .u64 52, .int .u64 11, .int .i64 (-1023)] := by
    obtain ⟨xs, n, rfl, hx, hl, hn, hf⟩ := DataW.trod_struct Tryz.underlying259 a4
    have hl : cs9.toList.length = 3 := hl
    simp only [Prod.mk.injEq, Rows.laid_internal_strconv_float64info, DataW.agg.injEq] at hx
    rcases xs with _ | ⟨x0, _ | ⟨x1, _ | ⟨x2, _ | ⟨x3, xs⟩⟩⟩⟩ <;> simp at hn
    obtain ⟨d0, q0⟩ := x0
    obtain ⟨d1, q1⟩ := x1
    obtain ⟨d2, q2⟩ := x2
    simp at hx
    obtain ⟨⟨rfl, rfl, rfl⟩, _⟩ := hx
    have k39 : Tryz.prog.cellsOf 39 = 1 := by kernel_rfl
    have k3 : Tryz.prog.cellsOf 3 = 1 := by kernel_rfl
    have f0 := hf 0 _ rfl
    have f1 := hf 1 _ rfl
    have f2 := hf 2 _ rfl
    generalize cs9.toList = l at *
    rcases l with _ | ⟨v0, _ | ⟨v1, _ | ⟨v2, _ | ⟨v3, l⟩⟩⟩⟩ <;> simp at hl
    simp [k39, k3] at f0 f1 f2
    have g0 := Va.leaf_int Tryz.underlying39 f0
    have g1 := Va.leaf_int Tryz.underlying39 f1
    have g2 := Va.leaf_int Tryz.underlying3 f2
    simp at g0 g1 g2
    rw [g0, g1, g2]
  rw [e9] at c9
  obtain ⟨g14, t14, cs14, f14, p14, a1, a2, a3, a4⟩ := Va.laid_at (n := "internal/strconv.float64pow10") (d := Rows.laid_internal_strconv_float64pow10) hv (List.mem_of_getElem? (i := 6) rfl)
  obtain rfl : 14 = g14 := Option.some.inj ((show Tryz.prog.globalNamed "internal/strconv.float64pow10" = some 14 by kernel_rfl).symm.trans a1)
  obtain rfl : 293 = t14 := Option.some.inj ((show (Tryz.prog.globals[14]?).map (·.type) = some 293 by kernel_rfl).symm.trans a2)
  obtain ⟨s14, c14⟩ := Va.var_cell a1 a3
  obtain ⟨a, cap, e14, hcap, hrow⟩ := open_row Tryz.underlying293 (by kernel_rfl) a4
  rw [e14] at c14
  have hcap : 23 ≤ cap := hcap
  have hr : ∀ (i : Nat) n, Ev.tabN[i]? = some n → W.cell? (a.add i) = some (.float .f64 n) := fun i n hi => by
    obtain ⟨v, k, q, h1, h2⟩ := hrow i (.lit (.float .f64 n)) (by
      show (Ev.tabN.map fun n => (DataW.lit (.float .f64 n) : DataW Unit))[i]? = _
      rw [List.getElem?_map, hi]; rfl)
    have := Va.leaf_float Tryz.underlying166 h2
    simp at this
    rw [h1, this]
  obtain ⟨b, o, sp⟩ := a
  obtain rfl : sp = none := cell_spot (hr 0 _ rfl)
  have hlt : b < W.heap.size := by
    have h := hr 0 _ rfl
    unfold World.cell? at h
    rcases Nat.lt_or_ge b W.heap.size with h' | h'
    · exact h'
    · simp [Addr.add, Array.getElem?_eq_none h'] at h
  refine ⟨m, ⟨b, o, 1⟩, ⟨fun i x hi => ?_, c5, c9, ⟨cap, hcap, c14 0 _ rfl⟩, fun i x hi => ?_, by omega, hlt⟩⟩
  · cases i with
    | zero => simp at hi; subst hi; exact hm
    | succ i => simp at hi
  · have e : Ev.tabV = Ev.tabN.map fun n => Value.float .f64 n := rfl
    rw [e, List.getElem?_map, Option.map_eq_some_iff] at hi
    obtain ⟨n, hn, rfl⟩ := hi
    have h := hr i n hn
    have ha : (⟨b, o, none⟩ : Addr).add i = ⟨b, o + i, none⟩ := by simp [Addr.add]
    rw [ha] at h
    exact h
theorem own : ownKnob Tryz.prog.godebug = none := by kernel_rfl

/-! ### STEP 1: THE WALK: the Go text returns true. 'Ev.GrownO w w'': the world has at most new blocks (Derived/RowKit3.lean). Part the cases AHEAD of 'go_enter' where a test parts the walk; take each callee by a contract of your own. -/
theorem walk (a0 a1 a2 : Int) (w0 : (Lit.int .u8 a0).wf = true) (w1 : (Lit.int .u8 a1).wf = true) (w2 : (Lit.int .u8 a2).wf = true) (w : World) (hm : ∃ m lf, Ev.Vars w m lf) :
    Calls Tryz.prog 6 #[.int .u8 a0, .agg #[.int .u8 a1, .int .u8 a2]] w fun e w' => e = .returned (.bool true) ∧ Ev.GrownO w w' := by
  have h8 : ∀ {a : Int}, (Lit.int .u8 a).wf = true → (0 : Int) ≤ a := fun h => by
    simp [Lit.wf, IntKind.min, IntKind.max, IntKind.signed, IntKind.bits] at h
    omega
  obtain ⟨x, rfl⟩ := Sx.nat_ofO (h8 w0)
  obtain ⟨y, rfl⟩ := Sx.nat_ofO (h8 w1)
  obtain ⟨z, rfl⟩ := Sx.nat_ofO (h8 w2)
  obtain ⟨m, lf, hm⟩ := hm
  letI := Ev.rhoV m lf rfl
  have k8 : ∀ n : Nat, Ev.RV Ev.Rho.gphi (.int .u8 (Int.ofNat n)) (.int .u8 (.ofNat n)) := fun n => .int _ _ (Ev.InR.no (by decide))
  exact Ev.walk_S (vs := [.int .u8 (.ofNat x), .agg #[.int .u8 (.ofNat y), .int .u8 (.ofNat z)]]) (by kernel_rfl) (Sx.okA m lf) (Sx.runO m x y z) (.cons _ _ _ _ (k8 x) (.cons _ _ _ _ (.agg _ _ (.cons _ _ _ _ (k8 y) (.cons _ _ _ _ (k8 z) .nil))) .nil)) (Ev.gb_v hm)

/-! ### THE ROW's STEP: WRITTEN OUT: LEAVE IT -/
set_option maxRecDepth 100000 in
theorem lifted (os : Os) (started : os.Started) (H : Type) (enc : TypeId × Value → H) :
    ReturnsInHanded {} Tryz.checked os 6 .any (fun w args => (Rows.checkOperatorsSpec.pre enc Tryz.prog Tryz.f6 Rows.checkOperatorsRow.domain false w args ∧ laidMetH Tryz.prog Rows.checkOperatorsRow.laid w) ∧ sizedMet enc Tryz.prog Tryz.f6 (OpenSpec.ofChange Rows.checkOperatorsSpec) false w args)
      (Rows.checkOperatorsSpec.post enc Tryz.prog Tryz.f6 false true false false) := by
  refine handed_shaped (C := Tryz.checked) (X := fun w _ => laidMetH Tryz.prog Rows.checkOperatorsRow.laid w) (fun _ _ _ hh h => h.of_heap hh) own started (by kernel_rfl) Tryz.func6
    (ChangeSpec.witness_shaped (enc := enc) (C := Tryz.checked) (os := os) (X := fun w _ => laidMetH Tryz.prog Rows.checkOperatorsRow.laid w) false (World.laidAll Tryz.prog os Rows.checkOperatorsRow.laid) #[.int .u8 0, .agg #[.int .u8 0, .int .u8 0]] 8 (World.laidAll_os _ _ _)
      (World.shaped_of_ZipB (by kernel_rfl) (by kernel_rfl)) (by kernel_rfl) (by kernel_rfl) (by kernel_rfl)
      (by rw [MakeChecks.laidMetH_plain _ _ _ (by kernel_rfl)]; exact laidMet_laidAll _ (by kernel_rfl) (by kernel_rfl))) ?_
  intro W base args ds gs before hval0 hW hsh hlaid
  have hm := vars_of hsh hlaid
  have hval : ∀ (j : Nat) t v, Tryz.f6.params[j]? = some t → args[j]? = some v → Value.okWide Tryz.prog W .any base t v := hval0
  have hW' := hW
  obtain ⟨p, q, hA0, hV, rfl, hfz, hnd⟩ := hW
  have hA : DataW.TrodAll enc Tryz.prog W 0 (fun _ => true) true Tryz.f6.params.toList args.toList ds p := hA0
  rw [Tryz.params6] at hA hval
  obtain ⟨v0, vs0, d0, ds0, p0, q0, hargs, rfl, rfl, h0, r0⟩ := trodAll_cons hA
  obtain ⟨v1, vs1, d1, ds1, p1, q1, rfl, rfl, rfl, h1, r1⟩ := trodAll_cons r0
  obtain ⟨rfl, rfl, rfl⟩ := trodAll_nil r1
  obtain rfl : args = #[v0, v1] := by cases args; simp_all
  obtain ⟨rfl, rfl⟩ := trodVars_none hV
  obtain ⟨a0, rfl, rfl, rfl, w0⟩ := open_int Tryz.underlying5 (hval 0 5 v0 rfl rfl) h0
  obtain ⟨a1, a2, rfl, rfl, rfl, w1, w2⟩ := open_arr2 Tryz.underlying47 Tryz.underlying5 (by kernel_rfl) (by kernel_rfl) (hval 1 47 v1 rfl rfl) h1
  clear hA0 hval0
  simp only [List.append_nil] at hW'
  refine (walk a0 a1 a2 w0 w1 w2 W hm).mono fun e W' ⟨he, hg⟩ => ?_
  subst he
  letI := Ev.rhoV 0 ⟨0, 0, 0⟩ rfl
  exact ⟨_, rfl, Ev.post_of_old (pa := []) (pv := []) hW' (fun _ _ _ => (trodAll_cons_mk (shut_bool Tryz.underlying4 _) trodAll_mk0)) (fun sp _ => (trodAll_cons_mk (shut_int Tryz.underlying5 w0) (trodAll_cons_mk (shut_arr2 Tryz.underlying47 Tryz.underlying5 (by kernel_rfl) (by kernel_rfl) w1 w2) trodAll_mk0))) (fun _ _ => rfl) rfl
    hg (ok_one (by kernel_rfl) rfl (okWide_bool_mk Tryz.underlying4 _))⟩

theorem over : Rows.checkOperatorsRow.holds Tryz.pinned (OpenSpec.ofChange Rows.checkOperatorsSpec) :=
  OpenClaim.holds_of_wide 6 Tryz.f6 rfl rfl rfl rfl rfl rfl rfl ⟨rfl, rfl, rfl, rfl, rfl⟩ rfl rfl rfl rfl rfl (by kernel_rfl) Tryz.func6 (by kernel_rfl)
    (of_decide_eq_true (by kernel_rfl)) (by unfold Func.isWrapper; first | (rw [if_pos (by decide +kernel)]; kernel_rfl) | (rw [if_neg (by decide +kernel)]; exact ⟨rfl, rfl⟩))
    (fun os started H enc _ => lifted os started H enc)

/-- The tied card. -/
theorem proved : Rows.CheckOperatorsCardSaid :=
  Claim7.holds_tied_plain_at .later [] [.data, .data, .widerDeep, .widerDeep, .data, .data, .data, .data, .data, .data, .sentinel, .sentinel, .pinned, .pinned, .pinned] true (true, "ebd2ec32d19dd9d5d10997c9a1d2c25e633f8d9d61827889ed568240c7dcc6d0") true over (fun _ h => by cases h) (by kernel_rfl) (fun _ h => by cases h) checkOperators_row_tie rfl ⟨rfl, rfl⟩ (by kernel_rfl) rfl
    (fun f fn hf hfn => by
      obtain rfl : f = 6 := Option.some.inj ((show Tryz.prog.funcNamed "solder/solderlaw12.CheckOperators" = some 6 by kernel_rfl).symm.trans hf) |>.symm
      obtain rfl : fn = Tryz.f6 := (Option.some.inj (Tryz.func6.symm.trans hfn)).symm
      exact ⟨by kernel_rfl, fun j t ht => by
        rw [Tryz.params6] at ht
        have hm : t ∈ [5, 47] := by
          have := Array.mem_of_getElem? ht
          simpa using this
        have hall : ([5, 47].all fun u => !Tryz.prog.wantsStandIn u) = true := by kernel_rfl
        exact (show Tryz.prog.wantsStandIn t = false by simpa using List.all_eq_true.1 hall t hm)⟩)
    (by kernel_rfl)
#print axioms proved
end Go.Proofs.YtnpadfengpoehaaGreatDoor.checkOperators
