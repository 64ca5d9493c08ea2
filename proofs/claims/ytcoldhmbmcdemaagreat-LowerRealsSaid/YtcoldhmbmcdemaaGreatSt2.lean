/- The printed code is what the translation makes of the loaded program. -/
import Derived.Test.YtcoldhmbmcdemaaGreatSx2
import Derived.Test.YtcoldhmbmcdemaaGreatRows
set_option linter.unusedSectionVars false
namespace Go.Proofs.YtcoldhmbmcdemaaGreat.Sx
open Go Go.Proofs.YtcoldhmbmcdemaaGreat.Ev
variable [Rho]
theorem tie116 : trFn Tryz.prog Tryz.f116 = some x116.fn := by kernel_rfl
theorem tie117 : trFn Tryz.prog Tryz.f117 = some x117.fn := by kernel_rfl
theorem tie118 : trFn Tryz.prog Tryz.f118 = some x118.fn := by kernel_rfl
theorem tie119 : trFn Tryz.prog Tryz.f119 = some x119.fn := by kernel_rfl
theorem tie120 : trFn Tryz.prog Tryz.f120 = some x120.fn := by kernel_rfl
theorem tie121 : trFn Tryz.prog Tryz.f121 = some x121.fn := by kernel_rfl
theorem tie122 : trFn Tryz.prog Tryz.f122 = some x122.fn := by kernel_rfl
theorem tie123 : trFn Tryz.prog Tryz.f123 = some x123.fn := by kernel_rfl
theorem tie124 : trFn Tryz.prog Tryz.f124 = some x124.fn := by kernel_rfl
theorem tie125 : trFn Tryz.prog Tryz.f125 = some x125.fn := by kernel_rfl
theorem tie126 : trFn Tryz.prog Tryz.f126 = some x126.fn := by kernel_rfl
theorem tie127 : trFn Tryz.prog Tryz.f127 = some x127.fn := by kernel_rfl
theorem tie128 : trFn Tryz.prog Tryz.f128 = some x128.fn := by kernel_rfl
theorem tie129 : trFn Tryz.prog Tryz.f129 = some x129.fn := by kernel_rfl
theorem tie130 : trFn Tryz.prog Tryz.f130 = some x130.fn := by kernel_rfl
theorem tie131 : trFn Tryz.prog Tryz.f131 = some x131.fn := by kernel_rfl
theorem tie132 : trFn Tryz.prog Tryz.f132 = some x132.fn := by kernel_rfl
theorem tie133 : trFn Tryz.prog Tryz.f133 = some x133.fn := by kernel_rfl
theorem tie134 : trFn Tryz.prog Tryz.f134 = some x134.fn := by kernel_rfl
theorem tie137 : trFn Tryz.prog Tryz.f137 = some x137.fn := by kernel_rfl
theorem tie138 : trFn Tryz.prog Tryz.f138 = some x138.fn := by kernel_rfl
theorem tie139 : trFn Tryz.prog Tryz.f139 = some x139.fn := by kernel_rfl
theorem tie140 : trFn Tryz.prog Tryz.f140 = some x140.fn := by kernel_rfl
theorem tie144 : trFn Tryz.prog Tryz.f144 = some x144.fn := by kernel_rfl
theorem tie145 : trFn Tryz.prog Tryz.f145 = some x145.fn := by kernel_rfl
theorem tie146 : trFn Tryz.prog Tryz.f146 = some x146.fn := by kernel_rfl
theorem tie147 : trFn Tryz.prog Tryz.f147 = some x147.fn := by kernel_rfl
theorem tie156 : trFn Tryz.prog Tryz.f156 = some x156.fn := by kernel_rfl
theorem tie157 : trFn Tryz.prog Tryz.f157 = some x157.fn := by kernel_rfl
theorem tie158 : trFn Tryz.prog Tryz.f158 = some x158.fn := by kernel_rfl
theorem tie159 : trFn Tryz.prog Tryz.f159 = some x159.fn := by kernel_rfl
theorem tie160 : trFn Tryz.prog Tryz.f160 = some x160.fn := by kernel_rfl
theorem tie162 : trFn Tryz.prog Tryz.f162 = some x162.fn := by kernel_rfl
theorem tie163 : trFn Tryz.prog Tryz.f163 = some x163.fn := by kernel_rfl
theorem tie164 : trFn Tryz.prog Tryz.f164 = some x164.fn := by kernel_rfl
theorem tie165 : trFn Tryz.prog Tryz.f165 = some x165.fn := by kernel_rfl
theorem tie166 : trFn Tryz.prog Tryz.f166 = some x166.fn := by kernel_rfl
theorem tie167 : trFn Tryz.prog Tryz.f167 = some x167.fn := by kernel_rfl
theorem tie168 : trFn Tryz.prog Tryz.f168 = some x168.fn := by kernel_rfl
theorem tie169 : trFn Tryz.prog Tryz.f169 = some x169.fn := by kernel_rfl
theorem tie178 : trFn Tryz.prog Tryz.f178 = some x178.fn := by kernel_rfl
theorem tie184 : trFn Tryz.prog Tryz.f184 = some x184.fn := by kernel_rfl
theorem tie185 : trFn Tryz.prog Tryz.f185 = some x185.fn := by kernel_rfl
noncomputable def tr2 : ST := (ST.node 138 (ST.node 125 (ST.node 120 (ST.node 117 (ST.node 116 (ST.at 116 x116 S116) (ST.at 117 x117 S117)) (ST.node 118 (ST.at 118 x118 S118) (ST.node 119 (ST.at 119 x119 S119) (ST.at 120 x120 S120)))) (ST.node 122 (ST.node 121 (ST.at 121 x121 S121) (ST.at 122 x122 S122)) (ST.node 123 (ST.at 123 x123 S123) (ST.node 124 (ST.at 124 x124 S124) (ST.at 125 x125 S125))))) (ST.node 130 (ST.node 127 (ST.node 126 (ST.at 126 x126 S126) (ST.at 127 x127 S127)) (ST.node 128 (ST.at 128 x128 S128) (ST.node 129 (ST.at 129 x129 S129) (ST.at 130 x130 S130)))) (ST.node 133 (ST.node 131 (ST.at 131 x131 S131) (ST.node 132 (ST.at 132 x132 S132) (ST.at 133 x133 S133))) (ST.node 134 (ST.at 134 x134 S134) (ST.node 137 (ST.at 137 x137 S137) (ST.at 138 x138 S138)))))) (ST.node 160 (ST.node 146 (ST.node 140 (ST.node 139 (ST.at 139 x139 S139) (ST.at 140 x140 S140)) (ST.node 144 (ST.at 144 x144 S144) (ST.node 145 (ST.at 145 x145 S145) (ST.at 146 x146 S146)))) (ST.node 157 (ST.node 147 (ST.at 147 x147 S147) (ST.node 156 (ST.at 156 x156 S156) (ST.at 157 x157 S157))) (ST.node 158 (ST.at 158 x158 S158) (ST.node 159 (ST.at 159 x159 S159) (ST.at 160 x160 S160))))) (ST.node 166 (ST.node 163 (ST.node 162 (ST.at 162 x162 S162) (ST.at 163 x163 S163)) (ST.node 164 (ST.at 164 x164 S164) (ST.node 165 (ST.at 165 x165 S165) (ST.at 166 x166 S166)))) (ST.node 169 (ST.node 167 (ST.at 167 x167 S167) (ST.node 168 (ST.at 168 x168 S168) (ST.at 169 x169 S169))) (ST.node 178 (ST.at 178 x178 S178) (ST.node 184 (ST.at 184 x184 S184) (ST.at 185 x185 S185)))))))
theorem ok2 : ST.Ok Tryz.prog tr2 := (ST.Ok.node _ _ _ (ST.Ok.node _ _ _ (ST.Ok.node _ _ _ (ST.Ok.node _ _ _ (ST.Ok.node _ _ _ (ST.Ok.at _ _ _ _ Tryz.func116 tie116 X116) (ST.Ok.at _ _ _ _ Tryz.func117 tie117 X117)) (ST.Ok.node _ _ _ (ST.Ok.at _ _ _ _ Tryz.func118 tie118 X118) (ST.Ok.node _ _ _ (ST.Ok.at _ _ _ _ Tryz.func119 tie119 X119) (ST.Ok.at _ _ _ _ Tryz.func120 tie120 X120)))) (ST.Ok.node _ _ _ (ST.Ok.node _ _ _ (ST.Ok.at _ _ _ _ Tryz.func121 tie121 X121) (ST.Ok.at _ _ _ _ Tryz.func122 tie122 X122)) (ST.Ok.node _ _ _ (ST.Ok.at _ _ _ _ Tryz.func123 tie123 X123) (ST.Ok.node _ _ _ (ST.Ok.at _ _ _ _ Tryz.func124 tie124 X124) (ST.Ok.at _ _ _ _ Tryz.func125 tie125 X125))))) (ST.Ok.node _ _ _ (ST.Ok.node _ _ _ (ST.Ok.node _ _ _ (ST.Ok.at _ _ _ _ Tryz.func126 tie126 X126) (ST.Ok.at _ _ _ _ Tryz.func127 tie127 X127)) (ST.Ok.node _ _ _ (ST.Ok.at _ _ _ _ Tryz.func128 tie128 X128) (ST.Ok.node _ _ _ (ST.Ok.at _ _ _ _ Tryz.func129 tie129 X129) (ST.Ok.at _ _ _ _ Tryz.func130 tie130 X130)))) (ST.Ok.node _ _ _ (ST.Ok.node _ _ _ (ST.Ok.at _ _ _ _ Tryz.func131 tie131 X131) (ST.Ok.node _ _ _ (ST.Ok.at _ _ _ _ Tryz.func132 tie132 X132) (ST.Ok.at _ _ _ _ Tryz.func133 tie133 X133))) (ST.Ok.node _ _ _ (ST.Ok.at _ _ _ _ Tryz.func134 tie134 X134) (ST.Ok.node _ _ _ (ST.Ok.at _ _ _ _ Tryz.func137 tie137 X137) (ST.Ok.at _ _ _ _ Tryz.func138 tie138 X138)))))) (ST.Ok.node _ _ _ (ST.Ok.node _ _ _ (ST.Ok.node _ _ _ (ST.Ok.node _ _ _ (ST.Ok.at _ _ _ _ Tryz.func139 tie139 X139) (ST.Ok.at _ _ _ _ Tryz.func140 tie140 X140)) (ST.Ok.node _ _ _ (ST.Ok.at _ _ _ _ Tryz.func144 tie144 X144) (ST.Ok.node _ _ _ (ST.Ok.at _ _ _ _ Tryz.func145 tie145 X145) (ST.Ok.at _ _ _ _ Tryz.func146 tie146 X146)))) (ST.Ok.node _ _ _ (ST.Ok.node _ _ _ (ST.Ok.at _ _ _ _ Tryz.func147 tie147 X147) (ST.Ok.node _ _ _ (ST.Ok.at _ _ _ _ Tryz.func156 tie156 X156) (ST.Ok.at _ _ _ _ Tryz.func157 tie157 X157))) (ST.Ok.node _ _ _ (ST.Ok.at _ _ _ _ Tryz.func158 tie158 X158) (ST.Ok.node _ _ _ (ST.Ok.at _ _ _ _ Tryz.func159 tie159 X159) (ST.Ok.at _ _ _ _ Tryz.func160 tie160 X160))))) (ST.Ok.node _ _ _ (ST.Ok.node _ _ _ (ST.Ok.node _ _ _ (ST.Ok.at _ _ _ _ Tryz.func162 tie162 X162) (ST.Ok.at _ _ _ _ Tryz.func163 tie163 X163)) (ST.Ok.node _ _ _ (ST.Ok.at _ _ _ _ Tryz.func164 tie164 X164) (ST.Ok.node _ _ _ (ST.Ok.at _ _ _ _ Tryz.func165 tie165 X165) (ST.Ok.at _ _ _ _ Tryz.func166 tie166 X166)))) (ST.Ok.node _ _ _ (ST.Ok.node _ _ _ (ST.Ok.at _ _ _ _ Tryz.func167 tie167 X167) (ST.Ok.node _ _ _ (ST.Ok.at _ _ _ _ Tryz.func168 tie168 X168) (ST.Ok.at _ _ _ _ Tryz.func169 tie169 X169))) (ST.Ok.node _ _ _ (ST.Ok.at _ _ _ _ Tryz.func178 tie178 X178) (ST.Ok.node _ _ _ (ST.Ok.at _ _ _ _ Tryz.func184 tie184 X184) (ST.Ok.at _ _ _ _ Tryz.func185 tie185 X185)))))))
end Go.Proofs.YtcoldhmbmcdemaaGreat.Sx
