/- The printed code is what the translation makes of the loaded program. -/
import Derived.Test.YtblciblkocameaaGreatSx3
import Derived.Test.YtblciblkocameaaGreatRows
set_option linter.unusedSectionVars false
namespace Go.Proofs.YtblciblkocameaaGreat.Sx
open Go Go.Proofs.YtblciblkocameaaGreat.Ev
variable [Rho]
theorem tie186 : trFn Tryz.prog Tryz.f186 = some x186.fn := by kernel_rfl
theorem tie187 : trFn Tryz.prog Tryz.f187 = some x187.fn := by kernel_rfl
theorem tie191 : trFn Tryz.prog Tryz.f191 = some x191.fn := by kernel_rfl
theorem tie195 : trFn Tryz.prog Tryz.f195 = some x195.fn := by kernel_rfl
noncomputable def tr3 : ST := (ST.node 187 (ST.node 186 (ST.at 186 x186 S186) (ST.at 187 x187 S187)) (ST.node 191 (ST.at 191 x191 S191) (ST.at 195 x195 S195)))
theorem ok3 : ST.Ok Tryz.prog tr3 := (ST.Ok.node _ _ _ (ST.Ok.node _ _ _ (ST.Ok.at _ _ _ _ Tryz.func186 tie186 X186) (ST.Ok.at _ _ _ _ Tryz.func187 tie187 X187)) (ST.Ok.node _ _ _ (ST.Ok.at _ _ _ _ Tryz.func191 tie191 X191) (ST.Ok.at _ _ _ _ Tryz.func195 tie195 X195)))
end Go.Proofs.YtblciblkocameaaGreat.Sx
