/- The printed code is what the translation makes of the loaded program. -/
import Derived.Test.YtakcpnpeadkfpaaGreatDoorSx2
import Derived.Test.YtakcpnpeadkfpaaGreatDoorRows
set_option linter.unusedSectionVars false
namespace Go.Proofs.YtakcpnpeadkfpaaGreatDoor.Sx
open Go Go.Proofs.YtakcpnpeadkfpaaGreatDoor.Ev
variable [Rho]
theorem tie145 : trFn Tryz.prog Tryz.f145 = some x145.fn := by kernel_rfl
theorem tie146 : trFn Tryz.prog Tryz.f146 = some x146.fn := by kernel_rfl
theorem tie149 : trFn Tryz.prog Tryz.f149 = some x149.fn := by kernel_rfl
theorem tie150 : trFn Tryz.prog Tryz.f150 = some x150.fn := by kernel_rfl
theorem tie152 : trFn Tryz.prog Tryz.f152 = some x152.fn := by kernel_rfl
theorem tie154 : trFn Tryz.prog Tryz.f154 = some x154.fn := by kernel_rfl
theorem tie160 : trFn Tryz.prog Tryz.f160 = some x160.fn := by kernel_rfl
theorem tie161 : trFn Tryz.prog Tryz.f161 = some x161.fn := by kernel_rfl
theorem tie162 : trFn Tryz.prog Tryz.f162 = some x162.fn := by kernel_rfl
theorem tie170 : trFn Tryz.prog Tryz.f170 = some x170.fn := by kernel_rfl
theorem tie176 : trFn Tryz.prog Tryz.f176 = some x176.fn := by kernel_rfl
theorem tie177 : trFn Tryz.prog Tryz.f177 = some x177.fn := by kernel_rfl
noncomputable def tr2 : ST := (ST.node 154 (ST.node 149 (ST.node 145 (ST.at 145 x145 S145) (ST.node 146 (ST.at 146 x146 S146) (ST.at 149 x149 S149))) (ST.node 150 (ST.at 150 x150 S150) (ST.node 152 (ST.at 152 x152 S152) (ST.at 154 x154 S154)))) (ST.node 162 (ST.node 160 (ST.at 160 x160 S160) (ST.node 161 (ST.at 161 x161 S161) (ST.at 162 x162 S162))) (ST.node 170 (ST.at 170 x170 S170) (ST.node 176 (ST.at 176 x176 S176) (ST.at 177 x177 S177)))))
theorem ok2 : ST.Ok Tryz.prog tr2 := (ST.Ok.node _ _ _ (ST.Ok.node _ _ _ (ST.Ok.node _ _ _ (ST.Ok.at _ _ _ _ Tryz.func145 tie145 X145) (ST.Ok.node _ _ _ (ST.Ok.at _ _ _ _ Tryz.func146 tie146 X146) (ST.Ok.at _ _ _ _ Tryz.func149 tie149 X149))) (ST.Ok.node _ _ _ (ST.Ok.at _ _ _ _ Tryz.func150 tie150 X150) (ST.Ok.node _ _ _ (ST.Ok.at _ _ _ _ Tryz.func152 tie152 X152) (ST.Ok.at _ _ _ _ Tryz.func154 tie154 X154)))) (ST.Ok.node _ _ _ (ST.Ok.node _ _ _ (ST.Ok.at _ _ _ _ Tryz.func160 tie160 X160) (ST.Ok.node _ _ _ (ST.Ok.at _ _ _ _ Tryz.func161 tie161 X161) (ST.Ok.at _ _ _ _ Tryz.func162 tie162 X162))) (ST.Ok.node _ _ _ (ST.Ok.at _ _ _ _ Tryz.func170 tie170 X170) (ST.Ok.node _ _ _ (ST.Ok.at _ _ _ _ Tryz.func176 tie176 X176) (ST.Ok.at _ _ _ _ Tryz.func177 tie177 X177)))))
end Go.Proofs.YtakcpnpeadkfpaaGreatDoor.Sx
