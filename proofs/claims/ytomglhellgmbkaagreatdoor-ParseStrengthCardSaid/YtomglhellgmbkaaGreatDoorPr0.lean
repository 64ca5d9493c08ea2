/- ParseStrength: the kernel's runs, part 0. -/
import Derived.Test.YtomglhellgmbkaaGreatDoorPu
namespace Go.Proofs.YtomglhellgmbkaaGreatDoor.Sx
open Go Go.Proofs.YtomglhellgmbkaaGreatDoor.Ev
theorem gP0 (m : Int) : and2P (oP m 0 0) (and2P (oP m 0 1) (and2P (oP m 0 2) (and2P (oP m 0 3) (and2P (oP m 0 4) (oP m 0 5))))) = true := by kernel_rfl
theorem gP4 (m : Int) : and2P (oP m 1 6) (and2P (oP m 1 7) (and2P (oP m 1 8) (and2P (oP m 1 9) (and2P (oP m 1 10) (oP m 1 11))))) = true := by kernel_rfl
theorem gP8 (m : Int) : and2P (oP m 2 12) (and2P (oP m 2 13) (and2P (oP m 2 14) (and2P (oP m 2 15) (and2P (oP m 2 16) (oP m 2 17))))) = true := by kernel_rfl
theorem gP12 (m : Int) : and2P (oP m 4 0) (and2P (oP m 4 1) (and2P (oP m 4 2) (and2P (oP m 4 3) (and2P (oP m 4 4) (oP m 4 5))))) = true := by kernel_rfl
theorem gP16 (m : Int) : and2P (oP m 5 6) (and2P (oP m 5 7) (and2P (oP m 5 8) (and2P (oP m 5 9) (and2P (oP m 5 10) (oP m 5 11))))) = true := by kernel_rfl
theorem gP20 (m : Int) : and2P (oP m 6 12) (and2P (oP m 6 13) (and2P (oP m 6 14) (and2P (oP m 6 15) (and2P (oP m 6 16) (oP m 6 17))))) = true := by kernel_rfl
theorem gP24 (m : Int) : and2P (oP m 8 0) (and2P (oP m 8 1) (and2P (oP m 8 2) (and2P (oP m 8 3) (and2P (oP m 8 4) (oP m 8 5))))) = true := by kernel_rfl
theorem gP28 (m : Int) : and2P (oP m 9 6) (and2P (oP m 9 7) (and2P (oP m 9 8) (and2P (oP m 9 9) (and2P (oP m 9 10) (oP m 9 11))))) = true := by kernel_rfl
theorem gP32 (m : Int) : and2P (oP m 10 12) (and2P (oP m 10 13) (and2P (oP m 10 14) (and2P (oP m 10 15) (and2P (oP m 10 16) (oP m 10 17))))) = true := by kernel_rfl
theorem gP36 (m : Int) : and2P (oP m 12 0) (and2P (oP m 12 1) (and2P (oP m 12 2) (and2P (oP m 12 3) (and2P (oP m 12 4) (oP m 12 5))))) = true := by kernel_rfl
theorem gP40 (m : Int) : and2P (oP m 13 6) (and2P (oP m 13 7) (and2P (oP m 13 8) (and2P (oP m 13 9) (and2P (oP m 13 10) (oP m 13 11))))) = true := by kernel_rfl
theorem gP44 (m : Int) : and2P (oP m 14 12) (and2P (oP m 14 13) (and2P (oP m 14 14) (and2P (oP m 14 15) (and2P (oP m 14 16) (oP m 14 17))))) = true := by kernel_rfl
theorem gP48 (m : Int) : and2P (oP m 16 0) (and2P (oP m 16 1) (and2P (oP m 16 2) (and2P (oP m 16 3) (and2P (oP m 16 4) (oP m 16 5))))) = true := by kernel_rfl
theorem gP52 (m : Int) : and2P (oP m 17 6) (and2P (oP m 17 7) (and2P (oP m 17 8) (and2P (oP m 17 9) (and2P (oP m 17 10) (oP m 17 11))))) = true := by kernel_rfl
end Go.Proofs.YtomglhellgmbkaaGreatDoor.Sx
