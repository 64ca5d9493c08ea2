/- BindStatics: the kernel's run, 3. -/
import Derived.Test.YtdeeainihfnbdaaGreatDoorBu
namespace Go.Proofs.YtdeeainihfnbdaaGreatDoor.Sx
open Go Go.Proofs.YtdeeainihfnbdaaGreatDoor.Ev
noncomputable section
theorem gB3 : oB 3 = true := by kernel_rfl
end
end Go.Proofs.YtdeeainihfnbdaaGreatDoor.Sx
