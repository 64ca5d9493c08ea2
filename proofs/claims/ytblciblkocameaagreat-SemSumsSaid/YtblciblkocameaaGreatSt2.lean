/- The printed code is what the translation makes of the loaded program. -/
import Derived.Test.YtblciblkocameaaGreatSx2
import Derived.Test.YtblciblkocameaaGreatRows
set_option linter.unusedSectionVars false
namespace Go.Proofs.YtblciblkocameaaGreat.Sx
open Go Go.Proofs.YtblciblkocameaaGreat.Ev
variable [Rho]
theorem tie117 : trFn Tryz.prog Tryz.f117 = some x117.fn := by kernel_rfl
theorem tie118 : trFn Tryz.prog Tryz.f118 = some x118.fn := by kernel_rfl
theorem tie119 : trFn Tryz.prog Tryz.f119 = some x119.fn := by kernel_rfl
theorem tie126 : trFn Tryz.prog Tryz.f126 = some x126.fn := by kernel_rfl
theorem tie132 : trFn Tryz.prog Tryz.f132 = some x132.fn := by kernel_rfl
theorem tie134 : trFn Tryz.prog Tryz.f134 = some x134.fn := by kernel_rfl
theorem tie135 : trFn Tryz.prog Tryz.f135 = some x135.fn := by kernel_rfl
theorem tie136 : trFn Tryz.prog Tryz.f136 = some x136.fn := by kernel_rfl
theorem tie138 : trFn Tryz.prog Tryz.f138 = some x138.fn := by kernel_rfl
theorem tie139 : trFn Tryz.prog Tryz.f139 = some x139.fn := by kernel_rfl
theorem tie140 : trFn Tryz.prog Tryz.f140 = some x140.fn := by kernel_rfl
theorem tie142 : trFn Tryz.prog Tryz.f142 = some x142.fn := by kernel_rfl
theorem tie143 : trFn Tryz.prog Tryz.f143 = some x143.fn := by kernel_rfl
theorem tie151 : trFn Tryz.prog Tryz.f151 = some x151.fn := by kernel_rfl
theorem tie155 : trFn Tryz.prog Tryz.f155 = some x155.fn := by kernel_rfl
theorem tie156 : trFn Tryz.prog Tryz.f156 = some x156.fn := by kernel_rfl
theorem tie157 : trFn Tryz.prog Tryz.f157 = some x157.fn := by kernel_rfl
theorem tie161 : trFn Tryz.prog Tryz.f161 = some x161.fn := by kernel_rfl
theorem tie162 : trFn Tryz.prog Tryz.f162 = some x162.fn := by kernel_rfl
theorem tie163 : trFn Tryz.prog Tryz.f163 = some x163.fn := by kernel_rfl
theorem tie164 : trFn Tryz.prog Tryz.f164 = some x164.fn := by kernel_rfl
theorem tie166 : trFn Tryz.prog Tryz.f166 = some x166.fn := by kernel_rfl
theorem tie168 : trFn Tryz.prog Tryz.f168 = some x168.fn := by kernel_rfl
theorem tie169 : trFn Tryz.prog Tryz.f169 = some x169.fn := by kernel_rfl
theorem tie170 : trFn Tryz.prog Tryz.f170 = some x170.fn := by kernel_rfl
theorem tie178 : trFn Tryz.prog Tryz.f178 = some x178.fn := by kernel_rfl
theorem tie179 : trFn Tryz.prog Tryz.f179 = some x179.fn := by kernel_rfl
theorem tie185 : trFn Tryz.prog Tryz.f185 = some x185.fn := by kernel_rfl
theorem tie187 : trFn Tryz.prog Tryz.f187 = some x187.fn := by kernel_rfl
noncomputable def tr2 : ST := (ST.node 151 (ST.node 135 (ST.node 119 (ST.node 117 (ST.at 117 x117 S117) (ST.node 118 (ST.at 118 x118 S118) (ST.at 119 x119 S119))) (ST.node 132 (ST.node 126 (ST.at 126 x126 S126) (ST.at 132 x132 S132)) (ST.node 134 (ST.at 134 x134 S134) (ST.at 135 x135 S135)))) (ST.node 139 (ST.node 136 (ST.at 136 x136 S136) (ST.node 138 (ST.at 138 x138 S138) (ST.at 139 x139 S139))) (ST.node 142 (ST.node 140 (ST.at 140 x140 S140) (ST.at 142 x142 S142)) (ST.node 143 (ST.at 143 x143 S143) (ST.at 151 x151 S151))))) (ST.node 164 (ST.node 157 (ST.node 155 (ST.at 155 x155 S155) (ST.node 156 (ST.at 156 x156 S156) (ST.at 157 x157 S157))) (ST.node 162 (ST.node 161 (ST.at 161 x161 S161) (ST.at 162 x162 S162)) (ST.node 163 (ST.at 163 x163 S163) (ST.at 164 x164 S164)))) (ST.node 170 (ST.node 168 (ST.node 166 (ST.at 166 x166 S166) (ST.at 168 x168 S168)) (ST.node 169 (ST.at 169 x169 S169) (ST.at 170 x170 S170))) (ST.node 179 (ST.node 178 (ST.at 178 x178 S178) (ST.at 179 x179 S179)) (ST.node 185 (ST.at 185 x185 S185) (ST.at 187 x187 S187))))))
theorem ok2 : ST.Ok Tryz.prog tr2 := (ST.Ok.node _ _ _ (ST.Ok.node _ _ _ (ST.Ok.node _ _ _ (ST.Ok.node _ _ _ (ST.Ok.at _ _ _ _ Tryz.func117 tie117 X117) (ST.Ok.node _ _ _ (ST.Ok.at _ _ _ _ Tryz.func118 tie118 X118) (ST.Ok.at _ _ _ _ Tryz.func119 tie119 X119))) (ST.Ok.node _ _ _ (ST.Ok.node _ _ _ (ST.Ok.at _ _ _ _ Tryz.func126 tie126 X126) (ST.Ok.at _ _ _ _ Tryz.func132 tie132 X132)) (ST.Ok.node _ _ _ (ST.Ok.at _ _ _ _ Tryz.func134 tie134 X134) (ST.Ok.at _ _ _ _ Tryz.func135 tie135 X135)))) (ST.Ok.node _ _ _ (ST.Ok.node _ _ _ (ST.Ok.at _ _ _ _ Tryz.func136 tie136 X136) (ST.Ok.node _ _ _ (ST.Ok.at _ _ _ _ Tryz.func138 tie138 X138) (ST.Ok.at _ _ _ _ Tryz.func139 tie139 X139))) (ST.Ok.node _ _ _ (ST.Ok.node _ _ _ (ST.Ok.at _ _ _ _ Tryz.func140 tie140 X140) (ST.Ok.at _ _ _ _ Tryz.func142 tie142 X142)) (ST.Ok.node _ _ _ (ST.Ok.at _ _ _ _ Tryz.func143 tie143 X143) (ST.Ok.at _ _ _ _ Tryz.func151 tie151 X151))))) (ST.Ok.node _ _ _ (ST.Ok.node _ _ _ (ST.Ok.node _ _ _ (ST.Ok.at _ _ _ _ Tryz.func155 tie155 X155) (ST.Ok.node _ _ _ (ST.Ok.at _ _ _ _ Tryz.func156 tie156 X156) (ST.Ok.at _ _ _ _ Tryz.func157 tie157 X157))) (ST.Ok.node _ _ _ (ST.Ok.node _ _ _ (ST.Ok.at _ _ _ _ Tryz.func161 tie161 X161) (ST.Ok.at _ _ _ _ Tryz.func162 tie162 X162)) (ST.Ok.node _ _ _ (ST.Ok.at _ _ _ _ Tryz.func163 tie163 X163) (ST.Ok.at _ _ _ _ Tryz.func164 tie164 X164)))) (ST.Ok.node _ _ _ (ST.Ok.node _ _ _ (ST.Ok.node _ _ _ (ST.Ok.at _ _ _ _ Tryz.func166 tie166 X166) (ST.Ok.at _ _ _ _ Tryz.func168 tie168 X168)) (ST.Ok.node _ _ _ (ST.Ok.at _ _ _ _ Tryz.func169 tie169 X169) (ST.Ok.at _ _ _ _ Tryz.func170 tie170 X170))) (ST.Ok.node _ _ _ (ST.Ok.node _ _ _ (ST.Ok.at _ _ _ _ Tryz.func178 tie178 X178) (ST.Ok.at _ _ _ _ Tryz.func179 tie179 X179)) (ST.Ok.node _ _ _ (ST.Ok.at _ _ _ _ Tryz.func185 tie185 X185) (ST.Ok.at _ _ _ _ Tryz.func187 tie187 X187))))))
end Go.Proofs.YtblciblkocameaaGreat.Sx
