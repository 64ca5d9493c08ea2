/- ParseStrength: the kernel's runs, part 1. -/
import Derived.Test.YtomglhellgmbkaaGreatDoorPu
namespace Go.Proofs.YtomglhellgmbkaaGreatDoor.Sx
open Go Go.Proofs.YtomglhellgmbkaaGreatDoor.Ev
theorem gP1 (m : Int) : and2P (oP m 0 6) (and2P (oP m 0 7) (and2P (oP m 0 8) (and2P (oP m 0 9) (and2P (oP m 0 10) (oP m 0 11))))) = true := by kernel_rfl
theorem gP5 (m : Int) : and2P (oP m 1 12) (and2P (oP m 1 13) (and2P (oP m 1 14) (and2P (oP m 1 15) (and2P (oP m 1 16) (oP m 1 17))))) = true := by kernel_rfl
theorem gP9 (m : Int) : and2P (oP m 3 0) (and2P (oP m 3 1) (and2P (oP m 3 2) (and2P (oP m 3 3) (and2P (oP m 3 4) (oP m 3 5))))) = true := by kernel_rfl
theorem gP13 (m : Int) : and2P (oP m 4 6) (and2P (oP m 4 7) (and2P (oP m 4 8) (and2P (oP m 4 9) (and2P (oP m 4 10) (oP m 4 11))))) = true := by kernel_rfl
theorem gP17 (m : Int) : and2P (oP m 5 12) (and2P (oP m 5 13) (and2P (oP m 5 14) (and2P (oP m 5 15) (and2P (oP m 5 16) (oP m 5 17))))) = true := by kernel_rfl
theorem gP21 (m : Int) : and2P (oP m 7 0) (and2P (oP m 7 1) (and2P (oP m 7 2) (and2P (oP m 7 3) (and2P (oP m 7 4) (oP m 7 5))))) = true := by kernel_rfl
theorem gP25 (m : Int) : and2P (oP m 8 6) (and2P (oP m 8 7) (and2P (oP m 8 8) (and2P (oP m 8 9) (and2P (oP m 8 10) (oP m 8 11))))) = true := by kernel_rfl
theorem gP29 (m : Int) : and2P (oP m 9 12) (and2P (oP m 9 13) (and2P (oP m 9 14) (and2P (oP m 9 15) (and2P (oP m 9 16) (oP m 9 17))))) = true := by kernel_rfl
theorem gP33 (m : Int) : and2P (oP m 11 0) (and2P (oP m 11 1) (and2P (oP m 11 2) (and2P (oP m 11 3) (and2P (oP m 11 4) (oP m 11 5))))) = true := by kernel_rfl
theorem gP37 (m : Int) : and2P (oP m 12 6) (and2P (oP m 12 7) (and2P (oP m 12 8) (and2P (oP m 12 9) (and2P (oP m 12 10) (oP m 12 11))))) = true := by kernel_rfl
theorem gP41 (m : Int) : and2P (oP m 13 12) (and2P (oP m 13 13) (and2P (oP m 13 14) (and2P (oP m 13 15) (and2P (oP m 13 16) (oP m 13 17))))) = true := by kernel_rfl
theorem gP45 (m : Int) : and2P (oP m 15 0) (and2P (oP m 15 1) (and2P (oP m 15 2) (and2P (oP m 15 3) (and2P (oP m 15 4) (oP m 15 5))))) = true := by kernel_rfl
theorem gP49 (m : Int) : and2P (oP m 16 6) (and2P (oP m 16 7) (and2P (oP m 16 8) (and2P (oP m 16 9) (and2P (oP m 16 10) (oP m 16 11))))) = true := by kernel_rfl
theorem gP53 (m : Int) : and2P (oP m 17 12) (and2P (oP m 17 13) (and2P (oP m 17 14) (and2P (oP m 17 15) (and2P (oP m 17 16) (oP m 17 17))))) = true := by kernel_rfl
end Go.Proofs.YtomglhellgmbkaaGreatDoor.Sx
