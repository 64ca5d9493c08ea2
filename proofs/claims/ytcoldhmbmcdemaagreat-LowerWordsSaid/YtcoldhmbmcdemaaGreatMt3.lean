/- The printed code is what the translation makes of the loaded program. -/
import Derived.Test.YtcoldhmbmcdemaaGreatMx3
import Derived.Test.YtcoldhmbmcdemaaGreatRows
namespace Go.Proofs.YtcoldhmbmcdemaaGreat.Sx
open Go Go.Proofs.YtcoldhmbmcdemaaGreat.Ev
theorem tie205 : trFn Tryz.prog Tryz.f205 = some x205.fn := by kernel_rfl
theorem tie206 : trFn Tryz.prog Tryz.f206 = some x206.fn := by kernel_rfl
theorem tie222 : trFn Tryz.prog Tryz.f222 = some x222.fn := by kernel_rfl
theorem tie224 : trFn Tryz.prog Tryz.f224 = some x224.fn := by kernel_rfl
theorem tie236 : trFn Tryz.prog Tryz.f236 = some x236.fn := by kernel_rfl
theorem tie244 : trFn Tryz.prog Tryz.f244 = some x244.fn := by kernel_rfl
noncomputable def tr3 : ST := (ST.node 222 (ST.node 205 (ST.at 205 x205 S205) (ST.node 206 (ST.at 206 x206 S206) (ST.at 222 x222 S222))) (ST.node 224 (ST.at 224 x224 S224) (ST.node 236 (ST.at 236 x236 S236) (ST.at 244 x244 S244))))
theorem ok3 : ST.Ok Tryz.prog tr3 := (ST.Ok.node _ _ _ (ST.Ok.node _ _ _ (ST.Ok.at _ _ _ _ Tryz.func205 tie205 X205) (ST.Ok.node _ _ _ (ST.Ok.at _ _ _ _ Tryz.func206 tie206 X206) (ST.Ok.at _ _ _ _ Tryz.func222 tie222 X222))) (ST.Ok.node _ _ _ (ST.Ok.at _ _ _ _ Tryz.func224 tie224 X224) (ST.Ok.node _ _ _ (ST.Ok.at _ _ _ _ Tryz.func236 tie236 X236) (ST.Ok.at _ _ _ _ Tryz.func244 tie244 X244))))
end Go.Proofs.YtcoldhmbmcdemaaGreat.Sx
