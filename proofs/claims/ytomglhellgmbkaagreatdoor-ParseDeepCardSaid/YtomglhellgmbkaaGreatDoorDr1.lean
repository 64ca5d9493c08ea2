/- ParseDeep: the kernel's runs, part 1. -/
import Derived.Test.YtomglhellgmbkaaGreatDoorDu
namespace Go.Proofs.YtomglhellgmbkaaGreatDoor.Sx
open Go Go.Proofs.YtomglhellgmbkaaGreatDoor.Ev
theorem gD1 (m : Int) : oD m 1 false = true := by kernel_rfl
theorem gD5 (m : Int) : oD m 5 false = true := by kernel_rfl
theorem gD9 (m : Int) : oD m 9 false = true := by kernel_rfl
theorem gD13 (m : Int) : oD m 13 false = true := by kernel_rfl
theorem gD17 (m : Int) : oD m 17 false = true := by kernel_rfl
theorem gD21 (m : Int) : oD m 21 false = true := by kernel_rfl
theorem gD25 (m : Int) : oD m 25 false = true := by kernel_rfl
theorem gD29 (m : Int) : oD m 29 false = true := by kernel_rfl
theorem gD33 (m : Int) : oD m 33 false = true := by kernel_rfl
theorem gD37 (m : Int) : oD m 37 false = true := by kernel_rfl
theorem gD41 (m : Int) : oD m 41 false = true := by kernel_rfl
theorem gD45 (m : Int) : oD m 45 false = true := by kernel_rfl
theorem gD49 (m : Int) : oD m 49 false = true := by kernel_rfl
theorem gD53 (m : Int) : oD m 3 true = true := by kernel_rfl
theorem gD57 (m : Int) : oD m 7 true = true := by kernel_rfl
theorem gD61 (m : Int) : oD m 11 true = true := by kernel_rfl
theorem gD65 (m : Int) : oD m 15 true = true := by kernel_rfl
theorem gD69 (m : Int) : oD m 19 true = true := by kernel_rfl
theorem gD73 (m : Int) : oD m 23 true = true := by kernel_rfl
theorem gD77 (m : Int) : oD m 27 true = true := by kernel_rfl
theorem gD81 (m : Int) : oD m 31 true = true := by kernel_rfl
theorem gD85 (m : Int) : oD m 35 true = true := by kernel_rfl
theorem gD89 (m : Int) : oD m 39 true = true := by kernel_rfl
theorem gD93 (m : Int) : oD m 43 true = true := by kernel_rfl
theorem gD97 (m : Int) : oD m 47 true = true := by kernel_rfl
end Go.Proofs.YtomglhellgmbkaaGreatDoor.Sx
