/- The printed code is what the translation makes of the loaded program. -/
import Derived.Test.YtblciblkocameaaGreatSx2
import Derived.Test.YtblciblkocameaaGreatRows
namespace Go.Proofs.YtblciblkocameaaGreat.Sx
open Go Go.Proofs.YtblciblkocameaaGreat.Ev
theorem tie114 : trFn Tryz.prog Tryz.f114 = some x114.fn := by kernel_rfl
theorem tie115 : trFn Tryz.prog Tryz.f115 = some x115.fn := by kernel_rfl
theorem tie116 : trFn Tryz.prog Tryz.f116 = some x116.fn := by kernel_rfl
theorem tie117 : trFn Tryz.prog Tryz.f117 = some x117.fn := by kernel_rfl
theorem tie118 : trFn Tryz.prog Tryz.f118 = some x118.fn := by kernel_rfl
theorem tie119 : trFn Tryz.prog Tryz.f119 = some x119.fn := by kernel_rfl
theorem tie122 : trFn Tryz.prog Tryz.f122 = some x122.fn := by kernel_rfl
theorem tie123 : trFn Tryz.prog Tryz.f123 = some x123.fn := by kernel_rfl
theorem tie124 : trFn Tryz.prog Tryz.f124 = some x124.fn := by kernel_rfl
theorem tie125 : trFn Tryz.prog Tryz.f125 = some x125.fn := by kernel_rfl
theorem tie126 : trFn Tryz.prog Tryz.f126 = some x126.fn := by kernel_rfl
theorem tie129 : trFn Tryz.prog Tryz.f129 = some x129.fn := by kernel_rfl
theorem tie132 : trFn Tryz.prog Tryz.f132 = some x132.fn := by kernel_rfl
theorem tie134 : trFn Tryz.prog Tryz.f134 = some x134.fn := by kernel_rfl
theorem tie135 : trFn Tryz.prog Tryz.f135 = some x135.fn := by kernel_rfl
theorem tie136 : trFn Tryz.prog Tryz.f136 = some x136.fn := by kernel_rfl
theorem tie137 : trFn Tryz.prog Tryz.f137 = some x137.fn := by kernel_rfl
theorem tie138 : trFn Tryz.prog Tryz.f138 = some x138.fn := by kernel_rfl
theorem tie139 : trFn Tryz.prog Tryz.f139 = some x139.fn := by kernel_rfl
theorem tie140 : trFn Tryz.prog Tryz.f140 = some x140.fn := by kernel_rfl
theorem tie142 : trFn Tryz.prog Tryz.f142 = some x142.fn := by kernel_rfl
theorem tie143 : trFn Tryz.prog Tryz.f143 = some x143.fn := by kernel_rfl
theorem tie146 : trFn Tryz.prog Tryz.f146 = some x146.fn := by kernel_rfl
theorem tie147 : trFn Tryz.prog Tryz.f147 = some x147.fn := by kernel_rfl
theorem tie148 : trFn Tryz.prog Tryz.f148 = some x148.fn := by kernel_rfl
theorem tie149 : trFn Tryz.prog Tryz.f149 = some x149.fn := by kernel_rfl
theorem tie151 : trFn Tryz.prog Tryz.f151 = some x151.fn := by kernel_rfl
theorem tie154 : trFn Tryz.prog Tryz.f154 = some x154.fn := by kernel_rfl
theorem tie155 : trFn Tryz.prog Tryz.f155 = some x155.fn := by kernel_rfl
theorem tie156 : trFn Tryz.prog Tryz.f156 = some x156.fn := by kernel_rfl
theorem tie158 : trFn Tryz.prog Tryz.f158 = some x158.fn := by kernel_rfl
theorem tie161 : trFn Tryz.prog Tryz.f161 = some x161.fn := by kernel_rfl
theorem tie162 : trFn Tryz.prog Tryz.f162 = some x162.fn := by kernel_rfl
noncomputable def tr2 : ST := (ST.node 136 (ST.node 123 (ST.node 117 (ST.node 115 (ST.node 114 (ST.at 114 x114 S114) (ST.at 115 x115 S115)) (ST.node 116 (ST.at 116 x116 S116) (ST.at 117 x117 S117))) (ST.node 119 (ST.node 118 (ST.at 118 x118 S118) (ST.at 119 x119 S119)) (ST.node 122 (ST.at 122 x122 S122) (ST.at 123 x123 S123)))) (ST.node 129 (ST.node 125 (ST.node 124 (ST.at 124 x124 S124) (ST.at 125 x125 S125)) (ST.node 126 (ST.at 126 x126 S126) (ST.at 129 x129 S129))) (ST.node 134 (ST.node 132 (ST.at 132 x132 S132) (ST.at 134 x134 S134)) (ST.node 135 (ST.at 135 x135 S135) (ST.at 136 x136 S136))))) (ST.node 147 (ST.node 140 (ST.node 138 (ST.node 137 (ST.at 137 x137 S137) (ST.at 138 x138 S138)) (ST.node 139 (ST.at 139 x139 S139) (ST.at 140 x140 S140))) (ST.node 143 (ST.node 142 (ST.at 142 x142 S142) (ST.at 143 x143 S143)) (ST.node 146 (ST.at 146 x146 S146) (ST.at 147 x147 S147)))) (ST.node 154 (ST.node 149 (ST.node 148 (ST.at 148 x148 S148) (ST.at 149 x149 S149)) (ST.node 151 (ST.at 151 x151 S151) (ST.at 154 x154 S154))) (ST.node 156 (ST.node 155 (ST.at 155 x155 S155) (ST.at 156 x156 S156)) (ST.node 158 (ST.at 158 x158 S158) (ST.node 161 (ST.at 161 x161 S161) (ST.at 162 x162 S162)))))))
theorem ok2 : ST.Ok Tryz.prog tr2 := (ST.Ok.node _ _ _ (ST.Ok.node _ _ _ (ST.Ok.node _ _ _ (ST.Ok.node _ _ _ (ST.Ok.node _ _ _ (ST.Ok.at _ _ _ _ Tryz.func114 tie114 X114) (ST.Ok.at _ _ _ _ Tryz.func115 tie115 X115)) (ST.Ok.node _ _ _ (ST.Ok.at _ _ _ _ Tryz.func116 tie116 X116) (ST.Ok.at _ _ _ _ Tryz.func117 tie117 X117))) (ST.Ok.node _ _ _ (ST.Ok.node _ _ _ (ST.Ok.at _ _ _ _ Tryz.func118 tie118 X118) (ST.Ok.at _ _ _ _ Tryz.func119 tie119 X119)) (ST.Ok.node _ _ _ (ST.Ok.at _ _ _ _ Tryz.func122 tie122 X122) (ST.Ok.at _ _ _ _ Tryz.func123 tie123 X123)))) (ST.Ok.node _ _ _ (ST.Ok.node _ _ _ (ST.Ok.node _ _ _ (ST.Ok.at _ _ _ _ Tryz.func124 tie124 X124) (ST.Ok.at _ _ _ _ Tryz.func125 tie125 X125)) (ST.Ok.node _ _ _ (ST.Ok.at _ _ _ _ Tryz.func126 tie126 X126) (ST.Ok.at _ _ _ _ Tryz.func129 tie129 X129))) (ST.Ok.node _ _ _ (ST.Ok.node _ _ _ (ST.Ok.at _ _ _ _ Tryz.func132 tie132 X132) (ST.Ok.at _ _ _ _ Tryz.func134 tie134 X134)) (ST.Ok.node _ _ _ (ST.Ok.at _ _ _ _ Tryz.func135 tie135 X135) (ST.Ok.at _ _ _ _ Tryz.func136 tie136 X136))))) (ST.Ok.node _ _ _ (ST.Ok.node _ _ _ (ST.Ok.node _ _ _ (ST.Ok.node _ _ _ (ST.Ok.at _ _ _ _ Tryz.func137 tie137 X137) (ST.Ok.at _ _ _ _ Tryz.func138 tie138 X138)) (ST.Ok.node _ _ _ (ST.Ok.at _ _ _ _ Tryz.func139 tie139 X139) (ST.Ok.at _ _ _ _ Tryz.func140 tie140 X140))) (ST.Ok.node _ _ _ (ST.Ok.node _ _ _ (ST.Ok.at _ _ _ _ Tryz.func142 tie142 X142) (ST.Ok.at _ _ _ _ Tryz.func143 tie143 X143)) (ST.Ok.node _ _ _ (ST.Ok.at _ _ _ _ Tryz.func146 tie146 X146) (ST.Ok.at _ _ _ _ Tryz.func147 tie147 X147)))) (ST.Ok.node _ _ _ (ST.Ok.node _ _ _ (ST.Ok.node _ _ _ (ST.Ok.at _ _ _ _ Tryz.func148 tie148 X148) (ST.Ok.at _ _ _ _ Tryz.func149 tie149 X149)) (ST.Ok.node _ _ _ (ST.Ok.at _ _ _ _ Tryz.func151 tie151 X151) (ST.Ok.at _ _ _ _ Tryz.func154 tie154 X154))) (ST.Ok.node _ _ _ (ST.Ok.node _ _ _ (ST.Ok.at _ _ _ _ Tryz.func155 tie155 X155) (ST.Ok.at _ _ _ _ Tryz.func156 tie156 X156)) (ST.Ok.node _ _ _ (ST.Ok.at _ _ _ _ Tryz.func158 tie158 X158) (ST.Ok.node _ _ _ (ST.Ok.at _ _ _ _ Tryz.func161 tie161 X161) (ST.Ok.at _ _ _ _ Tryz.func162 tie162 X162)))))))
end Go.Proofs.YtblciblkocameaaGreat.Sx
