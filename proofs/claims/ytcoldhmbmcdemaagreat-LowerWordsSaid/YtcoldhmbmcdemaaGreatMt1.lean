/- The printed code is what the translation makes of the loaded program. -/
import Derived.Test.YtcoldhmbmcdemaaGreatMx1
import Derived.Test.YtcoldhmbmcdemaaGreatRows
namespace Go.Proofs.YtcoldhmbmcdemaaGreat.Sx
open Go Go.Proofs.YtcoldhmbmcdemaaGreat.Ev
theorem tie59 : trFn Tryz.prog Tryz.f59 = some x59.fn := by kernel_rfl
theorem tie81 : trFn Tryz.prog Tryz.f81 = some x81.fn := by kernel_rfl
theorem tie82 : trFn Tryz.prog Tryz.f82 = some x82.fn := by kernel_rfl
theorem tie83 : trFn Tryz.prog Tryz.f83 = some x83.fn := by kernel_rfl
theorem tie84 : trFn Tryz.prog Tryz.f84 = some x84.fn := by kernel_rfl
theorem tie85 : trFn Tryz.prog Tryz.f85 = some x85.fn := by kernel_rfl
theorem tie89 : trFn Tryz.prog Tryz.f89 = some x89.fn := by kernel_rfl
theorem tie90 : trFn Tryz.prog Tryz.f90 = some x90.fn := by kernel_rfl
theorem tie91 : trFn Tryz.prog Tryz.f91 = some x91.fn := by kernel_rfl
theorem tie92 : trFn Tryz.prog Tryz.f92 = some x92.fn := by kernel_rfl
theorem tie93 : trFn Tryz.prog Tryz.f93 = some x93.fn := by kernel_rfl
theorem tie94 : trFn Tryz.prog Tryz.f94 = some x94.fn := by kernel_rfl
theorem tie95 : trFn Tryz.prog Tryz.f95 = some x95.fn := by kernel_rfl
theorem tie96 : trFn Tryz.prog Tryz.f96 = some x96.fn := by kernel_rfl
theorem tie97 : trFn Tryz.prog Tryz.f97 = some x97.fn := by kernel_rfl
theorem tie98 : trFn Tryz.prog Tryz.f98 = some x98.fn := by kernel_rfl
theorem tie115 : trFn Tryz.prog Tryz.f115 = some x115.fn := by kernel_rfl
theorem tie116 : trFn Tryz.prog Tryz.f116 = some x116.fn := by kernel_rfl
theorem tie117 : trFn Tryz.prog Tryz.f117 = some x117.fn := by kernel_rfl
theorem tie118 : trFn Tryz.prog Tryz.f118 = some x118.fn := by kernel_rfl
theorem tie119 : trFn Tryz.prog Tryz.f119 = some x119.fn := by kernel_rfl
theorem tie120 : trFn Tryz.prog Tryz.f120 = some x120.fn := by kernel_rfl
theorem tie121 : trFn Tryz.prog Tryz.f121 = some x121.fn := by kernel_rfl
theorem tie122 : trFn Tryz.prog Tryz.f122 = some x122.fn := by kernel_rfl
theorem tie123 : trFn Tryz.prog Tryz.f123 = some x123.fn := by kernel_rfl
theorem tie124 : trFn Tryz.prog Tryz.f124 = some x124.fn := by kernel_rfl
theorem tie125 : trFn Tryz.prog Tryz.f125 = some x125.fn := by kernel_rfl
theorem tie126 : trFn Tryz.prog Tryz.f126 = some x126.fn := by kernel_rfl
theorem tie127 : trFn Tryz.prog Tryz.f127 = some x127.fn := by kernel_rfl
theorem tie128 : trFn Tryz.prog Tryz.f128 = some x128.fn := by kernel_rfl
theorem tie129 : trFn Tryz.prog Tryz.f129 = some x129.fn := by kernel_rfl
theorem tie130 : trFn Tryz.prog Tryz.f130 = some x130.fn := by kernel_rfl
theorem tie131 : trFn Tryz.prog Tryz.f131 = some x131.fn := by kernel_rfl
theorem tie132 : trFn Tryz.prog Tryz.f132 = some x132.fn := by kernel_rfl
theorem tie133 : trFn Tryz.prog Tryz.f133 = some x133.fn := by kernel_rfl
noncomputable def tr1 : ST := (ST.node 115 (ST.node 90 (ST.node 83 (ST.node 81 (ST.node 59 (ST.at 59 x59 S59) (ST.at 81 x81 S81)) (ST.node 82 (ST.at 82 x82 S82) (ST.at 83 x83 S83))) (ST.node 85 (ST.node 84 (ST.at 84 x84 S84) (ST.at 85 x85 S85)) (ST.node 89 (ST.at 89 x89 S89) (ST.at 90 x90 S90)))) (ST.node 94 (ST.node 92 (ST.node 91 (ST.at 91 x91 S91) (ST.at 92 x92 S92)) (ST.node 93 (ST.at 93 x93 S93) (ST.at 94 x94 S94))) (ST.node 96 (ST.node 95 (ST.at 95 x95 S95) (ST.at 96 x96 S96)) (ST.node 97 (ST.at 97 x97 S97) (ST.node 98 (ST.at 98 x98 S98) (ST.at 115 x115 S115)))))) (ST.node 124 (ST.node 119 (ST.node 117 (ST.node 116 (ST.at 116 x116 S116) (ST.at 117 x117 S117)) (ST.node 118 (ST.at 118 x118 S118) (ST.at 119 x119 S119))) (ST.node 121 (ST.node 120 (ST.at 120 x120 S120) (ST.at 121 x121 S121)) (ST.node 122 (ST.at 122 x122 S122) (ST.node 123 (ST.at 123 x123 S123) (ST.at 124 x124 S124))))) (ST.node 128 (ST.node 126 (ST.node 125 (ST.at 125 x125 S125) (ST.at 126 x126 S126)) (ST.node 127 (ST.at 127 x127 S127) (ST.at 128 x128 S128))) (ST.node 130 (ST.node 129 (ST.at 129 x129 S129) (ST.at 130 x130 S130)) (ST.node 131 (ST.at 131 x131 S131) (ST.node 132 (ST.at 132 x132 S132) (ST.at 133 x133 S133)))))))
theorem ok1 : ST.Ok Tryz.prog tr1 := (ST.Ok.node _ _ _ (ST.Ok.node _ _ _ (ST.Ok.node _ _ _ (ST.Ok.node _ _ _ (ST.Ok.node _ _ _ (ST.Ok.at _ _ _ _ Tryz.func59 tie59 X59) (ST.Ok.at _ _ _ _ Tryz.func81 tie81 X81)) (ST.Ok.node _ _ _ (ST.Ok.at _ _ _ _ Tryz.func82 tie82 X82) (ST.Ok.at _ _ _ _ Tryz.func83 tie83 X83))) (ST.Ok.node _ _ _ (ST.Ok.node _ _ _ (ST.Ok.at _ _ _ _ Tryz.func84 tie84 X84) (ST.Ok.at _ _ _ _ Tryz.func85 tie85 X85)) (ST.Ok.node _ _ _ (ST.Ok.at _ _ _ _ Tryz.func89 tie89 X89) (ST.Ok.at _ _ _ _ Tryz.func90 tie90 X90)))) (ST.Ok.node _ _ _ (ST.Ok.node _ _ _ (ST.Ok.node _ _ _ (ST.Ok.at _ _ _ _ Tryz.func91 tie91 X91) (ST.Ok.at _ _ _ _ Tryz.func92 tie92 X92)) (ST.Ok.node _ _ _ (ST.Ok.at _ _ _ _ Tryz.func93 tie93 X93) (ST.Ok.at _ _ _ _ Tryz.func94 tie94 X94))) (ST.Ok.node _ _ _ (ST.Ok.node _ _ _ (ST.Ok.at _ _ _ _ Tryz.func95 tie95 X95) (ST.Ok.at _ _ _ _ Tryz.func96 tie96 X96)) (ST.Ok.node _ _ _ (ST.Ok.at _ _ _ _ Tryz.func97 tie97 X97) (ST.Ok.node _ _ _ (ST.Ok.at _ _ _ _ Tryz.func98 tie98 X98) (ST.Ok.at _ _ _ _ Tryz.func115 tie115 X115)))))) (ST.Ok.node _ _ _ (ST.Ok.node _ _ _ (ST.Ok.node _ _ _ (ST.Ok.node _ _ _ (ST.Ok.at _ _ _ _ Tryz.func116 tie116 X116) (ST.Ok.at _ _ _ _ Tryz.func117 tie117 X117)) (ST.Ok.node _ _ _ (ST.Ok.at _ _ _ _ Tryz.func118 tie118 X118) (ST.Ok.at _ _ _ _ Tryz.func119 tie119 X119))) (ST.Ok.node _ _ _ (ST.Ok.node _ _ _ (ST.Ok.at _ _ _ _ Tryz.func120 tie120 X120) (ST.Ok.at _ _ _ _ Tryz.func121 tie121 X121)) (ST.Ok.node _ _ _ (ST.Ok.at _ _ _ _ Tryz.func122 tie122 X122) (ST.Ok.node _ _ _ (ST.Ok.at _ _ _ _ Tryz.func123 tie123 X123) (ST.Ok.at _ _ _ _ Tryz.func124 tie124 X124))))) (ST.Ok.node _ _ _ (ST.Ok.node _ _ _ (ST.Ok.node _ _ _ (ST.Ok.at _ _ _ _ Tryz.func125 tie125 X125) (ST.Ok.at _ _ _ _ Tryz.func126 tie126 X126)) (ST.Ok.node _ _ _ (ST.Ok.at _ _ _ _ Tryz.func127 tie127 X127) (ST.Ok.at _ _ _ _ Tryz.func128 tie128 X128))) (ST.Ok.node _ _ _ (ST.Ok.node _ _ _ (ST.Ok.at _ _ _ _ Tryz.func129 tie129 X129) (ST.Ok.at _ _ _ _ Tryz.func130 tie130 X130)) (ST.Ok.node _ _ _ (ST.Ok.at _ _ _ _ Tryz.func131 tie131 X131) (ST.Ok.node _ _ _ (ST.Ok.at _ _ _ _ Tryz.func132 tie132 X132) (ST.Ok.at _ _ _ _ Tryz.func133 tie133 X133)))))))
end Go.Proofs.YtcoldhmbmcdemaaGreat.Sx
