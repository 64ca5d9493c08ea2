/- ParseCalls: the kernel's runs, part 0. -/
import Derived.Test.YtomglhellgmbkaaGreatDoorCu
namespace Go.Proofs.YtomglhellgmbkaaGreatDoor.Sx
open Go Go.Proofs.YtomglhellgmbkaaGreatDoor.Ev
theorem gC0 (m : Int) : oC m 0 = true := by kernel_rfl
theorem gC2 (m : Int) : oC m 2 = true := by kernel_rfl
theorem gC4 (m : Int) : oC m 4 = true := by kernel_rfl
theorem gC6 (m : Int) : oC m 6 = true := by kernel_rfl
theorem gC8 (m : Int) : oC m 8 = true := by kernel_rfl
theorem gC10 (m : Int) : oC m 10 = true := by kernel_rfl
end Go.Proofs.YtomglhellgmbkaaGreatDoor.Sx
