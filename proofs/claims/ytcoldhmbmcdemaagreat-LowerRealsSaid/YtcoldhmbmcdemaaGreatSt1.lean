/- The printed code is what the translation makes of the loaded program. -/
import Derived.Test.YtcoldhmbmcdemaaGreatSx1
import Derived.Test.YtcoldhmbmcdemaaGreatRows
set_option linter.unusedSectionVars false
namespace Go.Proofs.YtcoldhmbmcdemaaGreat.Sx
open Go Go.Proofs.YtcoldhmbmcdemaaGreat.Ev
variable [Rho]
theorem tie52 : trFn Tryz.prog Tryz.f52 = some x52.fn := by kernel_rfl
theorem tie53 : trFn Tryz.prog Tryz.f53 = some x53.fn := by kernel_rfl
theorem tie54 : trFn Tryz.prog Tryz.f54 = some x54.fn := by kernel_rfl
theorem tie57 : trFn Tryz.prog Tryz.f57 = some x57.fn := by kernel_rfl
theorem tie59 : trFn Tryz.prog Tryz.f59 = some x59.fn := by kernel_rfl
theorem tie60 : trFn Tryz.prog Tryz.f60 = some x60.fn := by kernel_rfl
theorem tie61 : trFn Tryz.prog Tryz.f61 = some x61.fn := by kernel_rfl
theorem tie62 : trFn Tryz.prog Tryz.f62 = some x62.fn := by kernel_rfl
theorem tie63 : trFn Tryz.prog Tryz.f63 = some x63.fn := by kernel_rfl
theorem tie64 : trFn Tryz.prog Tryz.f64 = some x64.fn := by kernel_rfl
theorem tie65 : trFn Tryz.prog Tryz.f65 = some x65.fn := by kernel_rfl
theorem tie66 : trFn Tryz.prog Tryz.f66 = some x66.fn := by kernel_rfl
theorem tie81 : trFn Tryz.prog Tryz.f81 = some x81.fn := by kernel_rfl
theorem tie82 : trFn Tryz.prog Tryz.f82 = some x82.fn := by kernel_rfl
theorem tie83 : trFn Tryz.prog Tryz.f83 = some x83.fn := by kernel_rfl
theorem tie84 : trFn Tryz.prog Tryz.f84 = some x84.fn := by kernel_rfl
theorem tie85 : trFn Tryz.prog Tryz.f85 = some x85.fn := by kernel_rfl
theorem tie89 : trFn Tryz.prog Tryz.f89 = some x89.fn := by kernel_rfl
theorem tie90 : trFn Tryz.prog Tryz.f90 = some x90.fn := by kernel_rfl
theorem tie91 : trFn Tryz.prog Tryz.f91 = some x91.fn := by kernel_rfl
theorem tie92 : trFn Tryz.prog Tryz.f92 = some x92.fn := by kernel_rfl
theorem tie93 : trFn Tryz.prog Tryz.f93 = some x93.fn := by kernel_rfl
theorem tie94 : trFn Tryz.prog Tryz.f94 = some x94.fn := by kernel_rfl
theorem tie95 : trFn Tryz.prog Tryz.f95 = some x95.fn := by kernel_rfl
theorem tie96 : trFn Tryz.prog Tryz.f96 = some x96.fn := by kernel_rfl
theorem tie97 : trFn Tryz.prog Tryz.f97 = some x97.fn := by kernel_rfl
theorem tie98 : trFn Tryz.prog Tryz.f98 = some x98.fn := by kernel_rfl
theorem tie102 : trFn Tryz.prog Tryz.f102 = some x102.fn := by kernel_rfl
theorem tie103 : trFn Tryz.prog Tryz.f103 = some x103.fn := by kernel_rfl
theorem tie104 : trFn Tryz.prog Tryz.f104 = some x104.fn := by kernel_rfl
theorem tie115 : trFn Tryz.prog Tryz.f115 = some x115.fn := by kernel_rfl
noncomputable def tr1 : ST := (ST.node 83 (ST.node 61 (ST.node 54 (ST.node 52 (ST.at 52 x52 S52) (ST.node 53 (ST.at 53 x53 S53) (ST.at 54 x54 S54))) (ST.node 59 (ST.node 57 (ST.at 57 x57 S57) (ST.at 59 x59 S59)) (ST.node 60 (ST.at 60 x60 S60) (ST.at 61 x61 S61)))) (ST.node 65 (ST.node 63 (ST.node 62 (ST.at 62 x62 S62) (ST.at 63 x63 S63)) (ST.node 64 (ST.at 64 x64 S64) (ST.at 65 x65 S65))) (ST.node 81 (ST.node 66 (ST.at 66 x66 S66) (ST.at 81 x81 S81)) (ST.node 82 (ST.at 82 x82 S82) (ST.at 83 x83 S83))))) (ST.node 94 (ST.node 90 (ST.node 85 (ST.node 84 (ST.at 84 x84 S84) (ST.at 85 x85 S85)) (ST.node 89 (ST.at 89 x89 S89) (ST.at 90 x90 S90))) (ST.node 92 (ST.node 91 (ST.at 91 x91 S91) (ST.at 92 x92 S92)) (ST.node 93 (ST.at 93 x93 S93) (ST.at 94 x94 S94)))) (ST.node 98 (ST.node 96 (ST.node 95 (ST.at 95 x95 S95) (ST.at 96 x96 S96)) (ST.node 97 (ST.at 97 x97 S97) (ST.at 98 x98 S98))) (ST.node 103 (ST.node 102 (ST.at 102 x102 S102) (ST.at 103 x103 S103)) (ST.node 104 (ST.at 104 x104 S104) (ST.at 115 x115 S115))))))
theorem ok1 : ST.Ok Tryz.prog tr1 := (ST.Ok.node _ _ _ (ST.Ok.node _ _ _ (ST.Ok.node _ _ _ (ST.Ok.node _ _ _ (ST.Ok.at _ _ _ _ Tryz.func52 tie52 X52) (ST.Ok.node _ _ _ (ST.Ok.at _ _ _ _ Tryz.func53 tie53 X53) (ST.Ok.at _ _ _ _ Tryz.func54 tie54 X54))) (ST.Ok.node _ _ _ (ST.Ok.node _ _ _ (ST.Ok.at _ _ _ _ Tryz.func57 tie57 X57) (ST.Ok.at _ _ _ _ Tryz.func59 tie59 X59)) (ST.Ok.node _ _ _ (ST.Ok.at _ _ _ _ Tryz.func60 tie60 X60) (ST.Ok.at _ _ _ _ Tryz.func61 tie61 X61)))) (ST.Ok.node _ _ _ (ST.Ok.node _ _ _ (ST.Ok.node _ _ _ (ST.Ok.at _ _ _ _ Tryz.func62 tie62 X62) (ST.Ok.at _ _ _ _ Tryz.func63 tie63 X63)) (ST.Ok.node _ _ _ (ST.Ok.at _ _ _ _ Tryz.func64 tie64 X64) (ST.Ok.at _ _ _ _ Tryz.func65 tie65 X65))) (ST.Ok.node _ _ _ (ST.Ok.node _ _ _ (ST.Ok.at _ _ _ _ Tryz.func66 tie66 X66) (ST.Ok.at _ _ _ _ Tryz.func81 tie81 X81)) (ST.Ok.node _ _ _ (ST.Ok.at _ _ _ _ Tryz.func82 tie82 X82) (ST.Ok.at _ _ _ _ Tryz.func83 tie83 X83))))) (ST.Ok.node _ _ _ (ST.Ok.node _ _ _ (ST.Ok.node _ _ _ (ST.Ok.node _ _ _ (ST.Ok.at _ _ _ _ Tryz.func84 tie84 X84) (ST.Ok.at _ _ _ _ Tryz.func85 tie85 X85)) (ST.Ok.node _ _ _ (ST.Ok.at _ _ _ _ Tryz.func89 tie89 X89) (ST.Ok.at _ _ _ _ Tryz.func90 tie90 X90))) (ST.Ok.node _ _ _ (ST.Ok.node _ _ _ (ST.Ok.at _ _ _ _ Tryz.func91 tie91 X91) (ST.Ok.at _ _ _ _ Tryz.func92 tie92 X92)) (ST.Ok.node _ _ _ (ST.Ok.at _ _ _ _ Tryz.func93 tie93 X93) (ST.Ok.at _ _ _ _ Tryz.func94 tie94 X94)))) (ST.Ok.node _ _ _ (ST.Ok.node _ _ _ (ST.Ok.node _ _ _ (ST.Ok.at _ _ _ _ Tryz.func95 tie95 X95) (ST.Ok.at _ _ _ _ Tryz.func96 tie96 X96)) (ST.Ok.node _ _ _ (ST.Ok.at _ _ _ _ Tryz.func97 tie97 X97) (ST.Ok.at _ _ _ _ Tryz.func98 tie98 X98))) (ST.Ok.node _ _ _ (ST.Ok.node _ _ _ (ST.Ok.at _ _ _ _ Tryz.func102 tie102 X102) (ST.Ok.at _ _ _ _ Tryz.func103 tie103 X103)) (ST.Ok.node _ _ _ (ST.Ok.at _ _ _ _ Tryz.func104 tie104 X104) (ST.Ok.at _ _ _ _ Tryz.func115 tie115 X115))))))
end Go.Proofs.YtcoldhmbmcdemaaGreat.Sx
