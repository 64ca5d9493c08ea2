/- The printed code is what the translation makes of the loaded program. -/
import Derived.Test.YtmoabbfdehaenaaGreatDoorSx1
import Derived.Test.YtmoabbfdehaenaaGreatDoorRows
set_option linter.unusedSectionVars false
namespace Go.Proofs.YtmoabbfdehaenaaGreatDoor.Sx
open Go Go.Proofs.YtmoabbfdehaenaaGreatDoor.Ev
variable [Rho]
theorem tie99 : trFn Tryz.prog Tryz.f99 = some x99.fn := by kernel_rfl
theorem tie100 : trFn Tryz.prog Tryz.f100 = some x100.fn := by kernel_rfl
theorem tie101 : trFn Tryz.prog Tryz.f101 = some x101.fn := by kernel_rfl
theorem tie105 : trFn Tryz.prog Tryz.f105 = some x105.fn := by kernel_rfl
theorem tie106 : trFn Tryz.prog Tryz.f106 = some x106.fn := by kernel_rfl
theorem tie114 : trFn Tryz.prog Tryz.f114 = some x114.fn := by kernel_rfl
theorem tie116 : trFn Tryz.prog Tryz.f116 = some x116.fn := by kernel_rfl
theorem tie123 : trFn Tryz.prog Tryz.f123 = some x123.fn := by kernel_rfl
noncomputable def tr1 : ST := (ST.node 105 (ST.node 100 (ST.node 99 (ST.at 99 x99 S99) (ST.at 100 x100 S100)) (ST.node 101 (ST.at 101 x101 S101) (ST.at 105 x105 S105))) (ST.node 114 (ST.node 106 (ST.at 106 x106 S106) (ST.at 114 x114 S114)) (ST.node 116 (ST.at 116 x116 S116) (ST.at 123 x123 S123))))
theorem ok1 : ST.Ok Tryz.prog tr1 := (ST.Ok.node _ _ _ (ST.Ok.node _ _ _ (ST.Ok.node _ _ _ (ST.Ok.at _ _ _ _ Tryz.func99 tie99 X99) (ST.Ok.at _ _ _ _ Tryz.func100 tie100 X100)) (ST.Ok.node _ _ _ (ST.Ok.at _ _ _ _ Tryz.func101 tie101 X101) (ST.Ok.at _ _ _ _ Tryz.func105 tie105 X105))) (ST.Ok.node _ _ _ (ST.Ok.node _ _ _ (ST.Ok.at _ _ _ _ Tryz.func106 tie106 X106) (ST.Ok.at _ _ _ _ Tryz.func114 tie114 X114)) (ST.Ok.node _ _ _ (ST.Ok.at _ _ _ _ Tryz.func116 tie116 X116) (ST.Ok.at _ _ _ _ Tryz.func123 tie123 X123))))
end Go.Proofs.YtmoabbfdehaenaaGreatDoor.Sx
