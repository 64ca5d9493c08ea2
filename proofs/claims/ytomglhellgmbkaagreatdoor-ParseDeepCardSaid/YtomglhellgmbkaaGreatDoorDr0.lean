/- ParseDeep: the kernel's runs, part 0. -/
import Derived.Test.YtomglhellgmbkaaGreatDoorDu
namespace Go.Proofs.YtomglhellgmbkaaGreatDoor.Sx
open Go Go.Proofs.YtomglhellgmbkaaGreatDoor.Ev
theorem gD0 (m : Int) : oD m 0 false = true := by kernel_rfl
theorem gD4 (m : Int) : oD m 4 false = true := by kernel_rfl
theorem gD8 (m : Int) : oD m 8 false = true := by kernel_rfl
theorem gD12 (m : Int) : oD m 12 false = true := by kernel_rfl
theorem gD16 (m : Int) : oD m 16 false = true := by kernel_rfl
theorem gD20 (m : Int) : oD m 20 false = true := by kernel_rfl
theorem gD24 (m : Int) : oD m 24 false = true := by kernel_rfl
theorem gD28 (m : Int) : oD m 28 false = true := by kernel_rfl
theorem gD32 (m : Int) : oD m 32 false = true := by kernel_rfl
theorem gD36 (m : Int) : oD m 36 false = true := by kernel_rfl
theorem gD40 (m : Int) : oD m 40 false = true := by kernel_rfl
theorem gD44 (m : Int) : oD m 44 false = true := by kernel_rfl
theorem gD48 (m : Int) : oD m 48 false = true := by kernel_rfl
theorem gD52 (m : Int) : oD m 2 true = true := by kernel_rfl
theorem gD56 (m : Int) : oD m 6 true = true := by kernel_rfl
theorem gD60 (m : Int) : oD m 10 true = true := by kernel_rfl
theorem gD64 (m : Int) : oD m 14 true = true := by kernel_rfl
theorem gD68 (m : Int) : oD m 18 true = true := by kernel_rfl
theorem gD72 (m : Int) : oD m 22 true = true := by kernel_rfl
theorem gD76 (m : Int) : oD m 26 true = true := by kernel_rfl
theorem gD80 (m : Int) : oD m 30 true = true := by kernel_rfl
theorem gD84 (m : Int) : oD m 34 true = true := by kernel_rfl
theorem gD88 (m : Int) : oD m 38 true = true := by kernel_rfl
theorem gD92 (m : Int) : oD m 42 true = true := by kernel_rfl
theorem gD96 (m : Int) : oD m 46 true = true := by kernel_rfl
end Go.Proofs.YtomglhellgmbkaaGreatDoor.Sx
