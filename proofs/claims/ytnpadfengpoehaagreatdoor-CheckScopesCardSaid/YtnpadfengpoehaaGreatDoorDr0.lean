/- CheckScopes: the kernel's runs, part 0. -/
import Derived.Test.YtnpadfengpoehaaGreatDoorDu
namespace Go.Proofs.YtnpadfengpoehaaGreatDoor.Sx
open Go Go.Proofs.YtnpadfengpoehaaGreatDoor.Ev
noncomputable section
theorem gD11false (m : Int) : oD m 11 false = true := by kernel_rfl
theorem gD8false (m : Int) : oD m 8 false = true := by kernel_rfl
theorem gD5false (m : Int) : oD m 5 false = true := by kernel_rfl
theorem gD2false (m : Int) : oD m 2 false = true := by kernel_rfl
end
end Go.Proofs.YtnpadfengpoehaaGreatDoor.Sx
