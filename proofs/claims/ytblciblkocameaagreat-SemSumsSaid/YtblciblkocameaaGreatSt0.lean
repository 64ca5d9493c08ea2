/- The printed code is what the translation makes of the loaded program. -/
import Derived.Test.YtblciblkocameaaGreatSx0
import Derived.Test.YtblciblkocameaaGreatRows
set_option linter.unusedSectionVars false
namespace Go.Proofs.YtblciblkocameaaGreat.Sx
open Go Go.Proofs.YtblciblkocameaaGreat.Ev
variable [Rho]
theorem tie5 : trFn Tryz.prog Tryz.f5 = some x5.fn := by kernel_rfl
theorem tie12 : trFn Tryz.prog Tryz.f12 = some x12.fn := by kernel_rfl
theorem tie13 : trFn Tryz.prog Tryz.f13 = some x13.fn := by kernel_rfl
theorem tie14 : trFn Tryz.prog Tryz.f14 = some x14.fn := by kernel_rfl
theorem tie17 : trFn Tryz.prog Tryz.f17 = some x17.fn := by kernel_rfl
theorem tie19 : trFn Tryz.prog Tryz.f19 = some x19.fn := by kernel_rfl
theorem tie22 : trFn Tryz.prog Tryz.f22 = some x22.fn := by kernel_rfl
theorem tie23 : trFn Tryz.prog Tryz.f23 = some x23.fn := by kernel_rfl
theorem tie24 : trFn Tryz.prog Tryz.f24 = some x24.fn := by kernel_rfl
theorem tie25 : trFn Tryz.prog Tryz.f25 = some x25.fn := by kernel_rfl
theorem tie26 : trFn Tryz.prog Tryz.f26 = some x26.fn := by kernel_rfl
theorem tie34 : trFn Tryz.prog Tryz.f34 = some x34.fn := by kernel_rfl
theorem tie35 : trFn Tryz.prog Tryz.f35 = some x35.fn := by kernel_rfl
theorem tie36 : trFn Tryz.prog Tryz.f36 = some x36.fn := by kernel_rfl
theorem tie37 : trFn Tryz.prog Tryz.f37 = some x37.fn := by kernel_rfl
theorem tie38 : trFn Tryz.prog Tryz.f38 = some x38.fn := by kernel_rfl
theorem tie39 : trFn Tryz.prog Tryz.f39 = some x39.fn := by kernel_rfl
theorem tie40 : trFn Tryz.prog Tryz.f40 = some x40.fn := by kernel_rfl
theorem tie41 : trFn Tryz.prog Tryz.f41 = some x41.fn := by kernel_rfl
theorem tie42 : trFn Tryz.prog Tryz.f42 = some x42.fn := by kernel_rfl
theorem tie44 : trFn Tryz.prog Tryz.f44 = some x44.fn := by kernel_rfl
theorem tie45 : trFn Tryz.prog Tryz.f45 = some x45.fn := by kernel_rfl
theorem tie46 : trFn Tryz.prog Tryz.f46 = some x46.fn := by kernel_rfl
theorem tie47 : trFn Tryz.prog Tryz.f47 = some x47.fn := by kernel_rfl
theorem tie49 : trFn Tryz.prog Tryz.f49 = some x49.fn := by kernel_rfl
theorem tie50 : trFn Tryz.prog Tryz.f50 = some x50.fn := by kernel_rfl
theorem tie51 : trFn Tryz.prog Tryz.f51 = some x51.fn := by kernel_rfl
theorem tie52 : trFn Tryz.prog Tryz.f52 = some x52.fn := by kernel_rfl
noncomputable def tr0 : ST := (ST.node 36 (ST.node 22 (ST.node 13 (ST.node 5 (ST.at 5 x5 S5) (ST.node 12 (ST.at 12 x12 S12) (ST.at 13 x13 S13))) (ST.node 17 (ST.node 14 (ST.at 14 x14 S14) (ST.at 17 x17 S17)) (ST.node 19 (ST.at 19 x19 S19) (ST.at 22 x22 S22)))) (ST.node 25 (ST.node 23 (ST.at 23 x23 S23) (ST.node 24 (ST.at 24 x24 S24) (ST.at 25 x25 S25))) (ST.node 34 (ST.node 26 (ST.at 26 x26 S26) (ST.at 34 x34 S34)) (ST.node 35 (ST.at 35 x35 S35) (ST.at 36 x36 S36))))) (ST.node 44 (ST.node 39 (ST.node 37 (ST.at 37 x37 S37) (ST.node 38 (ST.at 38 x38 S38) (ST.at 39 x39 S39))) (ST.node 41 (ST.node 40 (ST.at 40 x40 S40) (ST.at 41 x41 S41)) (ST.node 42 (ST.at 42 x42 S42) (ST.at 44 x44 S44)))) (ST.node 47 (ST.node 45 (ST.at 45 x45 S45) (ST.node 46 (ST.at 46 x46 S46) (ST.at 47 x47 S47))) (ST.node 50 (ST.node 49 (ST.at 49 x49 S49) (ST.at 50 x50 S50)) (ST.node 51 (ST.at 51 x51 S51) (ST.at 52 x52 S52))))))
theorem ok0 : ST.Ok Tryz.prog tr0 := (ST.Ok.node _ _ _ (ST.Ok.node _ _ _ (ST.Ok.node _ _ _ (ST.Ok.node _ _ _ (ST.Ok.at _ _ _ _ Tryz.func5 tie5 X5) (ST.Ok.node _ _ _ (ST.Ok.at _ _ _ _ Tryz.func12 tie12 X12) (ST.Ok.at _ _ _ _ Tryz.func13 tie13 X13))) (ST.Ok.node _ _ _ (ST.Ok.node _ _ _ (ST.Ok.at _ _ _ _ Tryz.func14 tie14 X14) (ST.Ok.at _ _ _ _ Tryz.func17 tie17 X17)) (ST.Ok.node _ _ _ (ST.Ok.at _ _ _ _ Tryz.func19 tie19 X19) (ST.Ok.at _ _ _ _ Tryz.func22 tie22 X22)))) (ST.Ok.node _ _ _ (ST.Ok.node _ _ _ (ST.Ok.at _ _ _ _ Tryz.func23 tie23 X23) (ST.Ok.node _ _ _ (ST.Ok.at _ _ _ _ Tryz.func24 tie24 X24) (ST.Ok.at _ _ _ _ Tryz.func25 tie25 X25))) (ST.Ok.node _ _ _ (ST.Ok.node _ _ _ (ST.Ok.at _ _ _ _ Tryz.func26 tie26 X26) (ST.Ok.at _ _ _ _ Tryz.func34 tie34 X34)) (ST.Ok.node _ _ _ (ST.Ok.at _ _ _ _ Tryz.func35 tie35 X35) (ST.Ok.at _ _ _ _ Tryz.func36 tie36 X36))))) (ST.Ok.node _ _ _ (ST.Ok.node _ _ _ (ST.Ok.node _ _ _ (ST.Ok.at _ _ _ _ Tryz.func37 tie37 X37) (ST.Ok.node _ _ _ (ST.Ok.at _ _ _ _ Tryz.func38 tie38 X38) (ST.Ok.at _ _ _ _ Tryz.func39 tie39 X39))) (ST.Ok.node _ _ _ (ST.Ok.node _ _ _ (ST.Ok.at _ _ _ _ Tryz.func40 tie40 X40) (ST.Ok.at _ _ _ _ Tryz.func41 tie41 X41)) (ST.Ok.node _ _ _ (ST.Ok.at _ _ _ _ Tryz.func42 tie42 X42) (ST.Ok.at _ _ _ _ Tryz.func44 tie44 X44)))) (ST.Ok.node _ _ _ (ST.Ok.node _ _ _ (ST.Ok.at _ _ _ _ Tryz.func45 tie45 X45) (ST.Ok.node _ _ _ (ST.Ok.at _ _ _ _ Tryz.func46 tie46 X46) (ST.Ok.at _ _ _ _ Tryz.func47 tie47 X47))) (ST.Ok.node _ _ _ (ST.Ok.node _ _ _ (ST.Ok.at _ _ _ _ Tryz.func49 tie49 X49) (ST.Ok.at _ _ _ _ Tryz.func50 tie50 X50)) (ST.Ok.node _ _ _ (ST.Ok.at _ _ _ _ Tryz.func51 tie51 X51) (ST.Ok.at _ _ _ _ Tryz.func52 tie52 X52))))))
end Go.Proofs.YtblciblkocameaaGreat.Sx
