/- CheckScopes: the kernel's runs, part 1. -/
import Derived.Test.YtnpadfengpoehaaGreatDoorDu
namespace Go.Proofs.YtnpadfengpoehaaGreatDoor.Sx
open Go Go.Proofs.YtnpadfengpoehaaGreatDoor.Ev
noncomputable section
theorem gD11true (m : Int) : oD m 11 true = true := by kernel_rfl
theorem gD8true (m : Int) : oD m 8 true = true := by kernel_rfl
theorem gD5true (m : Int) : oD m 5 true = true := by kernel_rfl
theorem gD2true (m : Int) : oD m 2 true = true := by kernel_rfl
end
end Go.Proofs.YtnpadfengpoehaaGreatDoor.Sx
