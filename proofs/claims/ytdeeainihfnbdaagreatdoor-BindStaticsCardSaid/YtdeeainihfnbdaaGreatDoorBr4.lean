/- BindStatics: the kernel's run, 4. -/
import Derived.Test.YtdeeainihfnbdaaGreatDoorBu
namespace Go.Proofs.YtdeeainihfnbdaaGreatDoor.Sx
open Go Go.Proofs.YtdeeainihfnbdaaGreatDoor.Ev
noncomputable section
theorem gB4 : oB 4 = true := by kernel_rfl
end
end Go.Proofs.YtdeeainihfnbdaaGreatDoor.Sx
