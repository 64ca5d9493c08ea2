/- The printed code is what the translation makes of the loaded program. -/
import Derived.Test.YtnpadfengpoehaaGreatDoorSx2
import Derived.Test.YtnpadfengpoehaaGreatDoorRows
set_option linter.unusedSectionVars false
namespace Go.Proofs.YtnpadfengpoehaaGreatDoor.Sx
open Go Go.Proofs.YtnpadfengpoehaaGreatDoor.Ev
variable [Rho]
theorem tie199 : trFn Tryz.prog Tryz.f199 = some x199.fn := by kernel_rfl
theorem tie207 : trFn Tryz.prog Tryz.f207 = some x207.fn := by kernel_rfl
theorem tie209 : trFn Tryz.prog Tryz.f209 = some x209.fn := by kernel_rfl
noncomputable def tr2 : ST := (ST.node 199 (ST.at 199 x199 S199) (ST.node 207 (ST.at 207 x207 S207) (ST.at 209 x209 S209)))
theorem ok2 : ST.Ok Tryz.prog tr2 := (ST.Ok.node _ _ _ (ST.Ok.at _ _ _ _ Tryz.func199 tie199 X199) (ST.Ok.node _ _ _ (ST.Ok.at _ _ _ _ Tryz.func207 tie207 X207) (ST.Ok.at _ _ _ _ Tryz.func209 tie209 X209)))
end Go.Proofs.YtnpadfengpoehaaGreatDoor.Sx
