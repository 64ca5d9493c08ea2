/- The printed code is what the translation makes of the loaded program. -/
import Derived.Test.YtbfdhoggchedjaaGreatDoorSx1
import Derived.Test.YtbfdhoggchedjaaGreatDoorRows
set_option linter.unusedSectionVars false
namespace Go.Proofs.YtbfdhoggchedjaaGreatDoor.Sx
open Go Go.Proofs.YtbfdhoggchedjaaGreatDoor.Ev
variable [Rho]
theorem tie124 : trFn Tryz.prog Tryz.f124 = some x124.fn := by kernel_rfl
theorem tie132 : trFn Tryz.prog Tryz.f132 = some x132.fn := by kernel_rfl
theorem tie134 : trFn Tryz.prog Tryz.f134 = some x134.fn := by kernel_rfl
noncomputable def tr1 : ST := (ST.node 124 (ST.at 124 x124 S124) (ST.node 132 (ST.at 132 x132 S132) (ST.at 134 x134 S134)))
theorem ok1 : ST.Ok Tryz.prog tr1 := (ST.Ok.node _ _ _ (ST.Ok.at _ _ _ _ Tryz.func124 tie124 X124) (ST.Ok.node _ _ _ (ST.Ok.at _ _ _ _ Tryz.func132 tie132 X132) (ST.Ok.at _ _ _ _ Tryz.func134 tie134 X134)))
end Go.Proofs.YtbfdhoggchedjaaGreatDoor.Sx
