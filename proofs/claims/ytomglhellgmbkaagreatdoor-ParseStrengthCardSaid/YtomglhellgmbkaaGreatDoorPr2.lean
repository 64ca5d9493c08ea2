/- ParseStrength: the kernel's runs, part 2. -/
import Derived.Test.YtomglhellgmbkaaGreatDoorPu
namespace Go.Proofs.YtomglhellgmbkaaGreatDoor.Sx
open Go Go.Proofs.YtomglhellgmbkaaGreatDoor.Ev
theorem gP2 (m : Int) : and2P (oP m 0 12) (and2P (oP m 0 13) (and2P (oP m 0 14) (and2P (oP m 0 15) (and2P (oP m 0 16) (oP m 0 17))))) = true := by kernel_rfl
theorem gP6 (m : Int) : and2P (oP m 2 0) (and2P (oP m 2 1) (and2P (oP m 2 2) (and2P (oP m 2 3) (and2P (oP m 2 4) (oP m 2 5))))) = true := by kernel_rfl
theorem gP10 (m : Int) : and2P (oP m 3 6) (and2P (oP m 3 7) (and2P (oP m 3 8) (and2P (oP m 3 9) (and2P (oP m 3 10) (oP m 3 11))))) = true := by kernel_rfl
theorem gP14 (m : Int) : and2P (oP m 4 12) (and2P (oP m 4 13) (and2P (oP m 4 14) (and2P (oP m 4 15) (and2P (oP m 4 16) (oP m 4 17))))) = true := by kernel_rfl
theorem gP18 (m : Int) : and2P (oP m 6 0) (and2P (oP m 6 1) (and2P (oP m 6 2) (and2P (oP m 6 3) (and2P (oP m 6 4) (oP m 6 5))))) = true := by kernel_rfl
theorem gP22 (m : Int) : and2P (oP m 7 6) (and2P (oP m 7 7) (and2P (oP m 7 8) (and2P (oP m 7 9) (and2P (oP m 7 10) (oP m 7 11))))) = true := by kernel_rfl
theorem gP26 (m : Int) : and2P (oP m 8 12) (and2P (oP m 8 13) (and2P (oP m 8 14) (and2P (oP m 8 15) (and2P (oP m 8 16) (oP m 8 17))))) = true := by kernel_rfl
theorem gP30 (m : Int) : and2P (oP m 10 0) (and2P (oP m 10 1) (and2P (oP m 10 2) (and2P (oP m 10 3) (and2P (oP m 10 4) (oP m 10 5))))) = true := by kernel_rfl
theorem gP34 (m : Int) : and2P (oP m 11 6) (and2P (oP m 11 7) (and2P (oP m 11 8) (and2P (oP m 11 9) (and2P (oP m 11 10) (oP m 11 11))))) = true := by kernel_rfl
theorem gP38 (m : Int) : and2P (oP m 12 12) (and2P (oP m 12 13) (and2P (oP m 12 14) (and2P (oP m 12 15) (and2P (oP m 12 16) (oP m 12 17))))) = true := by kernel_rfl
theorem gP42 (m : Int) : and2P (oP m 14 0) (and2P (oP m 14 1) (and2P (oP m 14 2) (and2P (oP m 14 3) (and2P (oP m 14 4) (oP m 14 5))))) = true := by kernel_rfl
theorem gP46 (m : Int) : and2P (oP m 15 6) (and2P (oP m 15 7) (and2P (oP m 15 8) (and2P (oP m 15 9) (and2P (oP m 15 10) (oP m 15 11))))) = true := by kernel_rfl
theorem gP50 (m : Int) : and2P (oP m 16 12) (and2P (oP m 16 13) (and2P (oP m 16 14) (and2P (oP m 16 15) (and2P (oP m 16 16) (oP m 16 17))))) = true := by kernel_rfl
end Go.Proofs.YtomglhellgmbkaaGreatDoor.Sx
