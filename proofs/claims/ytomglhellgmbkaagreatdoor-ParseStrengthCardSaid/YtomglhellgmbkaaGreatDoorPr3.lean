/- ParseStrength: the kernel's runs, part 3. -/
import Derived.Test.YtomglhellgmbkaaGreatDoorPu
namespace Go.Proofs.YtomglhellgmbkaaGreatDoor.Sx
open Go Go.Proofs.YtomglhellgmbkaaGreatDoor.Ev
theorem gP3 (m : Int) : and2P (oP m 1 0) (and2P (oP m 1 1) (and2P (oP m 1 2) (and2P (oP m 1 3) (and2P (oP m 1 4) (oP m 1 5))))) = true := by kernel_rfl
theorem gP7 (m : Int) : and2P (oP m 2 6) (and2P (oP m 2 7) (and2P (oP m 2 8) (and2P (oP m 2 9) (and2P (oP m 2 10) (oP m 2 11))))) = true := by kernel_rfl
theorem gP11 (m : Int) : and2P (oP m 3 12) (and2P (oP m 3 13) (and2P (oP m 3 14) (and2P (oP m 3 15) (and2P (oP m 3 16) (oP m 3 17))))) = true := by kernel_rfl
theorem gP15 (m : Int) : and2P (oP m 5 0) (and2P (oP m 5 1) (and2P (oP m 5 2) (and2P (oP m 5 3) (and2P (oP m 5 4) (oP m 5 5))))) = true := by kernel_rfl
theorem gP19 (m : Int) : and2P (oP m 6 6) (and2P (oP m 6 7) (and2P (oP m 6 8) (and2P (oP m 6 9) (and2P (oP m 6 10) (oP m 6 11))))) = true := by kernel_rfl
theorem gP23 (m : Int) : and2P (oP m 7 12) (and2P (oP m 7 13) (and2P (oP m 7 14) (and2P (oP m 7 15) (and2P (oP m 7 16) (oP m 7 17))))) = true := by kernel_rfl
theorem gP27 (m : Int) : and2P (oP m 9 0) (and2P (oP m 9 1) (and2P (oP m 9 2) (and2P (oP m 9 3) (and2P (oP m 9 4) (oP m 9 5))))) = true := by kernel_rfl
theorem gP31 (m : Int) : and2P (oP m 10 6) (and2P (oP m 10 7) (and2P (oP m 10 8) (and2P (oP m 10 9) (and2P (oP m 10 10) (oP m 10 11))))) = true := by kernel_rfl
theorem gP35 (m : Int) : and2P (oP m 11 12) (and2P (oP m 11 13) (and2P (oP m 11 14) (and2P (oP m 11 15) (and2P (oP m 11 16) (oP m 11 17))))) = true := by kernel_rfl
theorem gP39 (m : Int) : and2P (oP m 13 0) (and2P (oP m 13 1) (and2P (oP m 13 2) (and2P (oP m 13 3) (and2P (oP m 13 4) (oP m 13 5))))) = true := by kernel_rfl
theorem gP43 (m : Int) : and2P (oP m 14 6) (and2P (oP m 14 7) (and2P (oP m 14 8) (and2P (oP m 14 9) (and2P (oP m 14 10) (oP m 14 11))))) = true := by kernel_rfl
theorem gP47 (m : Int) : and2P (oP m 15 12) (and2P (oP m 15 13) (and2P (oP m 15 14) (and2P (oP m 15 15) (and2P (oP m 15 16) (oP m 15 17))))) = true := by kernel_rfl
theorem gP51 (m : Int) : and2P (oP m 17 0) (and2P (oP m 17 1) (and2P (oP m 17 2) (and2P (oP m 17 3) (and2P (oP m 17 4) (oP m 17 5))))) = true := by kernel_rfl
end Go.Proofs.YtomglhellgmbkaaGreatDoor.Sx
