/- CheckScopes: the kernel's runs, part 4. -/
import Derived.Test.YtnpadfengpoehaaGreatDoorDu
namespace Go.Proofs.YtnpadfengpoehaaGreatDoor.Sx
open Go Go.Proofs.YtnpadfengpoehaaGreatDoor.Ev
noncomputable section
theorem gD9false (m : Int) : oD m 9 false = true := by kernel_rfl
theorem gD6false (m : Int) : oD m 6 false = true := by kernel_rfl
theorem gD3false (m : Int) : oD m 3 false = true := by kernel_rfl
theorem gD0false (m : Int) : oD m 0 false = true := by kernel_rfl
end
end Go.Proofs.YtnpadfengpoehaaGreatDoor.Sx
