/- BindStatics: the kernel's run, 6. -/
import Derived.Test.YtdeeainihfnbdaaGreatDoorBu
namespace Go.Proofs.YtdeeainihfnbdaaGreatDoor.Sx
open Go Go.Proofs.YtdeeainihfnbdaaGreatDoor.Ev
noncomputable section
theorem gB6 : oB 6 = true := by kernel_rfl
end
end Go.Proofs.YtdeeainihfnbdaaGreatDoor.Sx
