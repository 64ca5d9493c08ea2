/- CheckScopes: the kernel's runs, part 5. -/
import Derived.Test.YtnpadfengpoehaaGreatDoorDu
namespace Go.Proofs.YtnpadfengpoehaaGreatDoor.Sx
open Go Go.Proofs.YtnpadfengpoehaaGreatDoor.Ev
noncomputable section
theorem gD9true (m : Int) : oD m 9 true = true := by kernel_rfl
theorem gD6true (m : Int) : oD m 6 true = true := by kernel_rfl
theorem gD3true (m : Int) : oD m 3 true = true := by kernel_rfl
theorem gD0true (m : Int) : oD m 0 true = true := by kernel_rfl
end
end Go.Proofs.YtnpadfengpoehaaGreatDoor.Sx
