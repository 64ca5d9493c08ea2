/- The printed code is what the translation makes of the loaded program. -/
import Derived.Test.YtcoldhmbmcdemaaGreatSx3
import Derived.Test.YtcoldhmbmcdemaaGreatRows
set_option linter.unusedSectionVars false
namespace Go.Proofs.YtcoldhmbmcdemaaGreat.Sx
open Go Go.Proofs.YtcoldhmbmcdemaaGreat.Ev
variable [Rho]
theorem tie187 : trFn Tryz.prog Tryz.f187 = some x187.fn := by kernel_rfl
theorem tie188 : trFn Tryz.prog Tryz.f188 = some x188.fn := by kernel_rfl
theorem tie189 : trFn Tryz.prog Tryz.f189 = some x189.fn := by kernel_rfl
theorem tie190 : trFn Tryz.prog Tryz.f190 = some x190.fn := by kernel_rfl
theorem tie199 : trFn Tryz.prog Tryz.f199 = some x199.fn := by kernel_rfl
theorem tie201 : trFn Tryz.prog Tryz.f201 = some x201.fn := by kernel_rfl
theorem tie202 : trFn Tryz.prog Tryz.f202 = some x202.fn := by kernel_rfl
theorem tie203 : trFn Tryz.prog Tryz.f203 = some x203.fn := by kernel_rfl
theorem tie205 : trFn Tryz.prog Tryz.f205 = some x205.fn := by kernel_rfl
theorem tie206 : trFn Tryz.prog Tryz.f206 = some x206.fn := by kernel_rfl
theorem tie217 : trFn Tryz.prog Tryz.f217 = some x217.fn := by kernel_rfl
theorem tie222 : trFn Tryz.prog Tryz.f222 = some x222.fn := by kernel_rfl
theorem tie224 : trFn Tryz.prog Tryz.f224 = some x224.fn := by kernel_rfl
theorem tie236 : trFn Tryz.prog Tryz.f236 = some x236.fn := by kernel_rfl
theorem tie244 : trFn Tryz.prog Tryz.f244 = some x244.fn := by kernel_rfl
noncomputable def tr3 : ST := (ST.node 202 (ST.node 189 (ST.node 187 (ST.at 187 x187 S187) (ST.node 188 (ST.at 188 x188 S188) (ST.at 189 x189 S189))) (ST.node 199 (ST.node 190 (ST.at 190 x190 S190) (ST.at 199 x199 S199)) (ST.node 201 (ST.at 201 x201 S201) (ST.at 202 x202 S202)))) (ST.node 217 (ST.node 205 (ST.node 203 (ST.at 203 x203 S203) (ST.at 205 x205 S205)) (ST.node 206 (ST.at 206 x206 S206) (ST.at 217 x217 S217))) (ST.node 224 (ST.node 222 (ST.at 222 x222 S222) (ST.at 224 x224 S224)) (ST.node 236 (ST.at 236 x236 S236) (ST.at 244 x244 S244)))))
theorem ok3 : ST.Ok Tryz.prog tr3 := (ST.Ok.node _ _ _ (ST.Ok.node _ _ _ (ST.Ok.node _ _ _ (ST.Ok.at _ _ _ _ Tryz.func187 tie187 X187) (ST.Ok.node _ _ _ (ST.Ok.at _ _ _ _ Tryz.func188 tie188 X188) (ST.Ok.at _ _ _ _ Tryz.func189 tie189 X189))) (ST.Ok.node _ _ _ (ST.Ok.node _ _ _ (ST.Ok.at _ _ _ _ Tryz.func190 tie190 X190) (ST.Ok.at _ _ _ _ Tryz.func199 tie199 X199)) (ST.Ok.node _ _ _ (ST.Ok.at _ _ _ _ Tryz.func201 tie201 X201) (ST.Ok.at _ _ _ _ Tryz.func202 tie202 X202)))) (ST.Ok.node _ _ _ (ST.Ok.node _ _ _ (ST.Ok.node _ _ _ (ST.Ok.at _ _ _ _ Tryz.func203 tie203 X203) (ST.Ok.at _ _ _ _ Tryz.func205 tie205 X205)) (ST.Ok.node _ _ _ (ST.Ok.at _ _ _ _ Tryz.func206 tie206 X206) (ST.Ok.at _ _ _ _ Tryz.func217 tie217 X217))) (ST.Ok.node _ _ _ (ST.Ok.node _ _ _ (ST.Ok.at _ _ _ _ Tryz.func222 tie222 X222) (ST.Ok.at _ _ _ _ Tryz.func224 tie224 X224)) (ST.Ok.node _ _ _ (ST.Ok.at _ _ _ _ Tryz.func236 tie236 X236) (ST.Ok.at _ _ _ _ Tryz.func244 tie244 X244)))))
end Go.Proofs.YtcoldhmbmcdemaaGreat.Sx
