/- BindStatics: the kernel's run, 2. -/
import Derived.Test.YtdeeainihfnbdaaGreatDoorBu
namespace Go.Proofs.YtdeeainihfnbdaaGreatDoor.Sx
open Go Go.Proofs.YtdeeainihfnbdaaGreatDoor.Ev
noncomputable section
theorem gB2 : oB 2 = true := by kernel_rfl
end
end Go.Proofs.YtdeeainihfnbdaaGreatDoor.Sx
