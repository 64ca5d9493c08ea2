/- CheckScopes: the kernel's runs, part 2. -/
import Derived.Test.YtnpadfengpoehaaGreatDoorDu
namespace Go.Proofs.YtnpadfengpoehaaGreatDoor.Sx
open Go Go.Proofs.YtnpadfengpoehaaGreatDoor.Ev
noncomputable section
theorem gD10false (m : Int) : oD m 10 false = true := by kernel_rfl
theorem gD7false (m : Int) : oD m 7 false = true := by kernel_rfl
theorem gD4false (m : Int) : oD m 4 false = true := by kernel_rfl
theorem gD1false (m : Int) : oD m 1 false = true := by kernel_rfl
end
end Go.Proofs.YtnpadfengpoehaaGreatDoor.Sx
