/- ParseCalls: the kernel's runs, part 1. -/
import Derived.Test.YtomglhellgmbkaaGreatDoorCu
namespace Go.Proofs.YtomglhellgmbkaaGreatDoor.Sx
open Go Go.Proofs.YtomglhellgmbkaaGreatDoor.Ev
theorem gC1 (m : Int) : oC m 1 = true := by kernel_rfl
theorem gC3 (m : Int) : oC m 3 = true := by kernel_rfl
theorem gC5 (m : Int) : oC m 5 = true := by kernel_rfl
theorem gC7 (m : Int) : oC m 7 = true := by kernel_rfl
theorem gC9 (m : Int) : oC m 9 = true := by kernel_rfl
theorem gC11 (m : Int) : oC m 11 = true := by kernel_rfl
end Go.Proofs.YtomglhellgmbkaaGreatDoor.Sx
