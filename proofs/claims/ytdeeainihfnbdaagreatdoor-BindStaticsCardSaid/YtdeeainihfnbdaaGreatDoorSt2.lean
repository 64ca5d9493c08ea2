/- The printed code is what the translation makes of the loaded program. -/
import Derived.Test.YtdeeainihfnbdaaGreatDoorSx2
import Derived.Test.YtdeeainihfnbdaaGreatDoorRows
set_option linter.unusedSectionVars false
namespace Go.Proofs.YtdeeainihfnbdaaGreatDoor.Sx
open Go Go.Proofs.YtdeeainihfnbdaaGreatDoor.Ev
variable [Rho]
theorem tie137 : trFn Tryz.prog Tryz.f137 = some x137.fn := by kernel_rfl
theorem tie141 : trFn Tryz.prog Tryz.f141 = some x141.fn := by kernel_rfl
noncomputable def tr2 : ST := (ST.node 137 (ST.at 137 x137 S137) (ST.at 141 x141 S141))
theorem ok2 : ST.Ok Tryz.prog tr2 := (ST.Ok.node _ _ _ (ST.Ok.at _ _ _ _ Tryz.func137 tie137 X137) (ST.Ok.at _ _ _ _ Tryz.func141 tie141 X141))
end Go.Proofs.YtdeeainihfnbdaaGreatDoor.Sx
