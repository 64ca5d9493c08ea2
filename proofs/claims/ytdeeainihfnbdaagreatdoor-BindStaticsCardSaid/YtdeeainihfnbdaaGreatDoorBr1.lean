/- BindStatics: the kernel's run, 1. -/
import Derived.Test.YtdeeainihfnbdaaGreatDoorBu
namespace Go.Proofs.YtdeeainihfnbdaaGreatDoor.Sx
open Go Go.Proofs.YtdeeainihfnbdaaGreatDoor.Ev
noncomputable section
theorem gB1 : oB 1 = true := by kernel_rfl
end
end Go.Proofs.YtdeeainihfnbdaaGreatDoor.Sx
