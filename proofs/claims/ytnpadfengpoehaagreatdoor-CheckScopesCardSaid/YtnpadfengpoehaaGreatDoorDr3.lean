/- CheckScopes: the kernel's runs, part 3. -/
import Derived.Test.YtnpadfengpoehaaGreatDoorDu
namespace Go.Proofs.YtnpadfengpoehaaGreatDoor.Sx
open Go Go.Proofs.YtnpadfengpoehaaGreatDoor.Ev
noncomputable section
theorem gD10true (m : Int) : oD m 10 true = true := by kernel_rfl
theorem gD7true (m : Int) : oD m 7 true = true := by kernel_rfl
theorem gD4true (m : Int) : oD m 4 true = true := by kernel_rfl
theorem gD1true (m : Int) : oD m 1 true = true := by kernel_rfl
end
end Go.Proofs.YtnpadfengpoehaaGreatDoor.Sx
