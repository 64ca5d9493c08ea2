/- The printed code is what the translation makes of the loaded program. -/
import Derived.Test.YtblciblkocameaaGreatSx3
import Derived.Test.YtblciblkocameaaGreatRows
set_option linter.unusedSectionVars false
namespace Go.Proofs.YtblciblkocameaaGreat.Sx
open Go Go.Proofs.YtblciblkocameaaGreat.Ev
variable [Rho]
theorem tie195 : trFn Tryz.prog Tryz.f195 = some x195.fn := by kernel_rfl
noncomputable def tr3 : ST := (ST.at 195 x195 S195)
theorem ok3 : ST.Ok Tryz.prog tr3 := (ST.Ok.at _ _ _ _ Tryz.func195 tie195 X195)
end Go.Proofs.YtblciblkocameaaGreat.Sx
