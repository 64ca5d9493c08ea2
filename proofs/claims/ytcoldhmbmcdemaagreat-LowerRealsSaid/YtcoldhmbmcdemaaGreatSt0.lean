/- The printed code is what the translation makes of the loaded program. -/
import Derived.Test.YtcoldhmbmcdemaaGreatSx0
import Derived.Test.YtcoldhmbmcdemaaGreatRows
set_option linter.unusedSectionVars false
namespace Go.Proofs.YtcoldhmbmcdemaaGreat.Sx
open Go Go.Proofs.YtcoldhmbmcdemaaGreat.Ev
variable [Rho]
theorem tie6 : trFn Tryz.prog Tryz.f6 = some x6.fn := by kernel_rfl
theorem tie8 : trFn Tryz.prog Tryz.f8 = some x8.fn := by kernel_rfl
theorem tie9 : trFn Tryz.prog Tryz.f9 = some x9.fn := by kernel_rfl
theorem tie11 : trFn Tryz.prog Tryz.f11 = some x11.fn := by kernel_rfl
theorem tie13 : trFn Tryz.prog Tryz.f13 = some x13.fn := by kernel_rfl
theorem tie14 : trFn Tryz.prog Tryz.f14 = some x14.fn := by kernel_rfl
theorem tie15 : trFn Tryz.prog Tryz.f15 = some x15.fn := by kernel_rfl
theorem tie16 : trFn Tryz.prog Tryz.f16 = some x16.fn := by kernel_rfl
theorem tie17 : trFn Tryz.prog Tryz.f17 = some x17.fn := by kernel_rfl
theorem tie20 : trFn Tryz.prog Tryz.f20 = some x20.fn := by kernel_rfl
theorem tie21 : trFn Tryz.prog Tryz.f21 = some x21.fn := by kernel_rfl
theorem tie23 : trFn Tryz.prog Tryz.f23 = some x23.fn := by kernel_rfl
theorem tie24 : trFn Tryz.prog Tryz.f24 = some x24.fn := by kernel_rfl
theorem tie26 : trFn Tryz.prog Tryz.f26 = some x26.fn := by kernel_rfl
theorem tie27 : trFn Tryz.prog Tryz.f27 = some x27.fn := by kernel_rfl
theorem tie28 : trFn Tryz.prog Tryz.f28 = some x28.fn := by kernel_rfl
theorem tie34 : trFn Tryz.prog Tryz.f34 = some x34.fn := by kernel_rfl
theorem tie35 : trFn Tryz.prog Tryz.f35 = some x35.fn := by kernel_rfl
theorem tie36 : trFn Tryz.prog Tryz.f36 = some x36.fn := by kernel_rfl
theorem tie37 : trFn Tryz.prog Tryz.f37 = some x37.fn := by kernel_rfl
theorem tie38 : trFn Tryz.prog Tryz.f38 = some x38.fn := by kernel_rfl
theorem tie39 : trFn Tryz.prog Tryz.f39 = some x39.fn := by kernel_rfl
theorem tie40 : trFn Tryz.prog Tryz.f40 = some x40.fn := by kernel_rfl
theorem tie41 : trFn Tryz.prog Tryz.f41 = some x41.fn := by kernel_rfl
theorem tie48 : trFn Tryz.prog Tryz.f48 = some x48.fn := by kernel_rfl
theorem tie49 : trFn Tryz.prog Tryz.f49 = some x49.fn := by kernel_rfl
theorem tie50 : trFn Tryz.prog Tryz.f50 = some x50.fn := by kernel_rfl
theorem tie51 : trFn Tryz.prog Tryz.f51 = some x51.fn := by kernel_rfl
noncomputable def tr0 : ST := (ST.node 26 (ST.node 15 (ST.node 9 (ST.node 6 (ST.at 6 x6 S6) (ST.node 8 (ST.at 8 x8 S8) (ST.at 9 x9 S9))) (ST.node 13 (ST.node 11 (ST.at 11 x11 S11) (ST.at 13 x13 S13)) (ST.node 14 (ST.at 14 x14 S14) (ST.at 15 x15 S15)))) (ST.node 20 (ST.node 16 (ST.at 16 x16 S16) (ST.node 17 (ST.at 17 x17 S17) (ST.at 20 x20 S20))) (ST.node 23 (ST.node 21 (ST.at 21 x21 S21) (ST.at 23 x23 S23)) (ST.node 24 (ST.at 24 x24 S24) (ST.at 26 x26 S26))))) (ST.node 38 (ST.node 34 (ST.node 27 (ST.at 27 x27 S27) (ST.node 28 (ST.at 28 x28 S28) (ST.at 34 x34 S34))) (ST.node 36 (ST.node 35 (ST.at 35 x35 S35) (ST.at 36 x36 S36)) (ST.node 37 (ST.at 37 x37 S37) (ST.at 38 x38 S38)))) (ST.node 41 (ST.node 39 (ST.at 39 x39 S39) (ST.node 40 (ST.at 40 x40 S40) (ST.at 41 x41 S41))) (ST.node 49 (ST.node 48 (ST.at 48 x48 S48) (ST.at 49 x49 S49)) (ST.node 50 (ST.at 50 x50 S50) (ST.at 51 x51 S51))))))
theorem ok0 : ST.Ok Tryz.prog tr0 := (ST.Ok.node _ _ _ (ST.Ok.node _ _ _ (ST.Ok.node _ _ _ (ST.Ok.node _ _ _ (ST.Ok.at _ _ _ _ Tryz.func6 tie6 X6) (ST.Ok.node _ _ _ (ST.Ok.at _ _ _ _ Tryz.func8 tie8 X8) (ST.Ok.at _ _ _ _ Tryz.func9 tie9 X9))) (ST.Ok.node _ _ _ (ST.Ok.node _ _ _ (ST.Ok.at _ _ _ _ Tryz.func11 tie11 X11) (ST.Ok.at _ _ _ _ Tryz.func13 tie13 X13)) (ST.Ok.node _ _ _ (ST.Ok.at _ _ _ _ Tryz.func14 tie14 X14) (ST.Ok.at _ _ _ _ Tryz.func15 tie15 X15)))) (ST.Ok.node _ _ _ (ST.Ok.node _ _ _ (ST.Ok.at _ _ _ _ Tryz.func16 tie16 X16) (ST.Ok.node _ _ _ (ST.Ok.at _ _ _ _ Tryz.func17 tie17 X17) (ST.Ok.at _ _ _ _ Tryz.func20 tie20 X20))) (ST.Ok.node _ _ _ (ST.Ok.node _ _ _ (ST.Ok.at _ _ _ _ Tryz.func21 tie21 X21) (ST.Ok.at _ _ _ _ Tryz.func23 tie23 X23)) (ST.Ok.node _ _ _ (ST.Ok.at _ _ _ _ Tryz.func24 tie24 X24) (ST.Ok.at _ _ _ _ Tryz.func26 tie26 X26))))) (ST.Ok.node _ _ _ (ST.Ok.node _ _ _ (ST.Ok.node _ _ _ (ST.Ok.at _ _ _ _ Tryz.func27 tie27 X27) (ST.Ok.node _ _ _ (ST.Ok.at _ _ _ _ Tryz.func28 tie28 X28) (ST.Ok.at _ _ _ _ Tryz.func34 tie34 X34))) (ST.Ok.node _ _ _ (ST.Ok.node _ _ _ (ST.Ok.at _ _ _ _ Tryz.func35 tie35 X35) (ST.Ok.at _ _ _ _ Tryz.func36 tie36 X36)) (ST.Ok.node _ _ _ (ST.Ok.at _ _ _ _ Tryz.func37 tie37 X37) (ST.Ok.at _ _ _ _ Tryz.func38 tie38 X38)))) (ST.Ok.node _ _ _ (ST.Ok.node _ _ _ (ST.Ok.at _ _ _ _ Tryz.func39 tie39 X39) (ST.Ok.node _ _ _ (ST.Ok.at _ _ _ _ Tryz.func40 tie40 X40) (ST.Ok.at _ _ _ _ Tryz.func41 tie41 X41))) (ST.Ok.node _ _ _ (ST.Ok.node _ _ _ (ST.Ok.at _ _ _ _ Tryz.func48 tie48 X48) (ST.Ok.at _ _ _ _ Tryz.func49 tie49 X49)) (ST.Ok.node _ _ _ (ST.Ok.at _ _ _ _ Tryz.func50 tie50 X50) (ST.Ok.at _ _ _ _ Tryz.func51 tie51 X51))))))
end Go.Proofs.YtcoldhmbmcdemaaGreat.Sx
