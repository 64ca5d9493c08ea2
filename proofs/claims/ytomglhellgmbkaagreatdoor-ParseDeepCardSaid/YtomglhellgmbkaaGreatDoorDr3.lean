/- ParseDeep: the kernel's runs, part 3. -/
import Derived.Test.YtomglhellgmbkaaGreatDoorDu
namespace Go.Proofs.YtomglhellgmbkaaGreatDoor.Sx
open Go Go.Proofs.YtomglhellgmbkaaGreatDoor.Ev
theorem gD3 (m : Int) : oD m 3 false = true := by kernel_rfl
theorem gD7 (m : Int) : oD m 7 false = true := by kernel_rfl
theorem gD11 (m : Int) : oD m 11 false = true := by kernel_rfl
theorem gD15 (m : Int) : oD m 15 false = true := by kernel_rfl
theorem gD19 (m : Int) : oD m 19 false = true := by kernel_rfl
theorem gD23 (m : Int) : oD m 23 false = true := by kernel_rfl
theorem gD27 (m : Int) : oD m 27 false = true := by kernel_rfl
theorem gD31 (m : Int) : oD m 31 false = true := by kernel_rfl
theorem gD35 (m : Int) : oD m 35 false = true := by kernel_rfl
theorem gD39 (m : Int) : oD m 39 false = true := by kernel_rfl
theorem gD43 (m : Int) : oD m 43 false = true := by kernel_rfl
theorem gD47 (m : Int) : oD m 47 false = true := by kernel_rfl
theorem gD51 (m : Int) : oD m 1 true = true := by kernel_rfl
theorem gD55 (m : Int) : oD m 5 true = true := by kernel_rfl
theorem gD59 (m : Int) : oD m 9 true = true := by kernel_rfl
theorem gD63 (m : Int) : oD m 13 true = true := by kernel_rfl
theorem gD67 (m : Int) : oD m 17 true = true := by kernel_rfl
theorem gD71 (m : Int) : oD m 21 true = true := by kernel_rfl
theorem gD75 (m : Int) : oD m 25 true = true := by kernel_rfl
theorem gD79 (m : Int) : oD m 29 true = true := by kernel_rfl
theorem gD83 (m : Int) : oD m 33 true = true := by kernel_rfl
theorem gD87 (m : Int) : oD m 37 true = true := by kernel_rfl
theorem gD91 (m : Int) : oD m 41 true = true := by kernel_rfl
theorem gD95 (m : Int) : oD m 45 true = true := by kernel_rfl
theorem gD99 (m : Int) : oD m 49 true = true := by kernel_rfl
end Go.Proofs.YtomglhellgmbkaaGreatDoor.Sx
