/- ParseDeep: the kernel's runs, part 2. -/
import Derived.Test.YtomglhellgmbkaaGreatDoorDu
namespace Go.Proofs.YtomglhellgmbkaaGreatDoor.Sx
open Go Go.Proofs.YtomglhellgmbkaaGreatDoor.Ev
theorem gD2 (m : Int) : oD m 2 false = true := by kernel_rfl
theorem gD6 (m : Int) : oD m 6 false = true := by kernel_rfl
theorem gD10 (m : Int) : oD m 10 false = true := by kernel_rfl
theorem gD14 (m : Int) : oD m 14 false = true := by kernel_rfl
theorem gD18 (m : Int) : oD m 18 false = true := by kernel_rfl
theorem gD22 (m : Int) : oD m 22 false = true := by kernel_rfl
theorem gD26 (m : Int) : oD m 26 false = true := by kernel_rfl
theorem gD30 (m : Int) : oD m 30 false = true := by kernel_rfl
theorem gD34 (m : Int) : oD m 34 false = true := by kernel_rfl
theorem gD38 (m : Int) : oD m 38 false = true := by kernel_rfl
theorem gD42 (m : Int) : oD m 42 false = true := by kernel_rfl
theorem gD46 (m : Int) : oD m 46 false = true := by kernel_rfl
theorem gD50 (m : Int) : oD m 0 true = true := by kernel_rfl
theorem gD54 (m : Int) : oD m 4 true = true := by kernel_rfl
theorem gD58 (m : Int) : oD m 8 true = true := by kernel_rfl
theorem gD62 (m : Int) : oD m 12 true = true := by kernel_rfl
theorem gD66 (m : Int) : oD m 16 true = true := by kernel_rfl
theorem gD70 (m : Int) : oD m 20 true = true := by kernel_rfl
theorem gD74 (m : Int) : oD m 24 true = true := by kernel_rfl
theorem gD78 (m : Int) : oD m 28 true = true := by kernel_rfl
theorem gD82 (m : Int) : oD m 32 true = true := by kernel_rfl
theorem gD86 (m : Int) : oD m 36 true = true := by kernel_rfl
theorem gD90 (m : Int) : oD m 40 true = true := by kernel_rfl
theorem gD94 (m : Int) : oD m 44 true = true := by kernel_rfl
theorem gD98 (m : Int) : oD m 48 true = true := by kernel_rfl
end Go.Proofs.YtomglhellgmbkaaGreatDoor.Sx
