/- The printed code is what the translation makes of the loaded program. -/
import Derived.Test.YtcoldhmbmcdemaaGreatMx2
import Derived.Test.YtcoldhmbmcdemaaGreatRows
namespace Go.Proofs.YtcoldhmbmcdemaaGreat.Sx
open Go Go.Proofs.YtcoldhmbmcdemaaGreat.Ev
theorem tie134 : trFn Tryz.prog Tryz.f134 = some x134.fn := by kernel_rfl
theorem tie137 : trFn Tryz.prog Tryz.f137 = some x137.fn := by kernel_rfl
theorem tie138 : trFn Tryz.prog Tryz.f138 = some x138.fn := by kernel_rfl
theorem tie139 : trFn Tryz.prog Tryz.f139 = some x139.fn := by kernel_rfl
theorem tie140 : trFn Tryz.prog Tryz.f140 = some x140.fn := by kernel_rfl
theorem tie144 : trFn Tryz.prog Tryz.f144 = some x144.fn := by kernel_rfl
theorem tie145 : trFn Tryz.prog Tryz.f145 = some x145.fn := by kernel_rfl
theorem tie146 : trFn Tryz.prog Tryz.f146 = some x146.fn := by kernel_rfl
theorem tie147 : trFn Tryz.prog Tryz.f147 = some x147.fn := by kernel_rfl
theorem tie156 : trFn Tryz.prog Tryz.f156 = some x156.fn := by kernel_rfl
theorem tie157 : trFn Tryz.prog Tryz.f157 = some x157.fn := by kernel_rfl
theorem tie158 : trFn Tryz.prog Tryz.f158 = some x158.fn := by kernel_rfl
theorem tie159 : trFn Tryz.prog Tryz.f159 = some x159.fn := by kernel_rfl
theorem tie160 : trFn Tryz.prog Tryz.f160 = some x160.fn := by kernel_rfl
theorem tie162 : trFn Tryz.prog Tryz.f162 = some x162.fn := by kernel_rfl
theorem tie163 : trFn Tryz.prog Tryz.f163 = some x163.fn := by kernel_rfl
theorem tie164 : trFn Tryz.prog Tryz.f164 = some x164.fn := by kernel_rfl
theorem tie165 : trFn Tryz.prog Tryz.f165 = some x165.fn := by kernel_rfl
theorem tie166 : trFn Tryz.prog Tryz.f166 = some x166.fn := by kernel_rfl
theorem tie167 : trFn Tryz.prog Tryz.f167 = some x167.fn := by kernel_rfl
theorem tie168 : trFn Tryz.prog Tryz.f168 = some x168.fn := by kernel_rfl
theorem tie169 : trFn Tryz.prog Tryz.f169 = some x169.fn := by kernel_rfl
theorem tie178 : trFn Tryz.prog Tryz.f178 = some x178.fn := by kernel_rfl
theorem tie179 : trFn Tryz.prog Tryz.f179 = some x179.fn := by kernel_rfl
theorem tie184 : trFn Tryz.prog Tryz.f184 = some x184.fn := by kernel_rfl
theorem tie187 : trFn Tryz.prog Tryz.f187 = some x187.fn := by kernel_rfl
theorem tie188 : trFn Tryz.prog Tryz.f188 = some x188.fn := by kernel_rfl
theorem tie190 : trFn Tryz.prog Tryz.f190 = some x190.fn := by kernel_rfl
theorem tie199 : trFn Tryz.prog Tryz.f199 = some x199.fn := by kernel_rfl
theorem tie201 : trFn Tryz.prog Tryz.f201 = some x201.fn := by kernel_rfl
theorem tie202 : trFn Tryz.prog Tryz.f202 = some x202.fn := by kernel_rfl
theorem tie203 : trFn Tryz.prog Tryz.f203 = some x203.fn := by kernel_rfl
noncomputable def tr2 : ST := (ST.node 163 (ST.node 146 (ST.node 139 (ST.node 137 (ST.node 134 (ST.at 134 x134 S134) (ST.at 137 x137 S137)) (ST.node 138 (ST.at 138 x138 S138) (ST.at 139 x139 S139))) (ST.node 144 (ST.node 140 (ST.at 140 x140 S140) (ST.at 144 x144 S144)) (ST.node 145 (ST.at 145 x145 S145) (ST.at 146 x146 S146)))) (ST.node 158 (ST.node 156 (ST.node 147 (ST.at 147 x147 S147) (ST.at 156 x156 S156)) (ST.node 157 (ST.at 157 x157 S157) (ST.at 158 x158 S158))) (ST.node 160 (ST.node 159 (ST.at 159 x159 S159) (ST.at 160 x160 S160)) (ST.node 162 (ST.at 162 x162 S162) (ST.at 163 x163 S163))))) (ST.node 179 (ST.node 167 (ST.node 165 (ST.node 164 (ST.at 164 x164 S164) (ST.at 165 x165 S165)) (ST.node 166 (ST.at 166 x166 S166) (ST.at 167 x167 S167))) (ST.node 169 (ST.node 168 (ST.at 168 x168 S168) (ST.at 169 x169 S169)) (ST.node 178 (ST.at 178 x178 S178) (ST.at 179 x179 S179)))) (ST.node 190 (ST.node 187 (ST.node 184 (ST.at 184 x184 S184) (ST.at 187 x187 S187)) (ST.node 188 (ST.at 188 x188 S188) (ST.at 190 x190 S190))) (ST.node 201 (ST.node 199 (ST.at 199 x199 S199) (ST.at 201 x201 S201)) (ST.node 202 (ST.at 202 x202 S202) (ST.at 203 x203 S203))))))
theorem ok2 : ST.Ok Tryz.prog tr2 := (ST.Ok.node _ _ _ (ST.Ok.node _ _ _ (ST.Ok.node _ _ _ (ST.Ok.node _ _ _ (ST.Ok.node _ _ _ (ST.Ok.at _ _ _ _ Tryz.func134 tie134 X134) (ST.Ok.at _ _ _ _ Tryz.func137 tie137 X137)) (ST.Ok.node _ _ _ (ST.Ok.at _ _ _ _ Tryz.func138 tie138 X138) (ST.Ok.at _ _ _ _ Tryz.func139 tie139 X139))) (ST.Ok.node _ _ _ (ST.Ok.node _ _ _ (ST.Ok.at _ _ _ _ Tryz.func140 tie140 X140) (ST.Ok.at _ _ _ _ Tryz.func144 tie144 X144)) (ST.Ok.node _ _ _ (ST.Ok.at _ _ _ _ Tryz.func145 tie145 X145) (ST.Ok.at _ _ _ _ Tryz.func146 tie146 X146)))) (ST.Ok.node _ _ _ (ST.Ok.node _ _ _ (ST.Ok.node _ _ _ (ST.Ok.at _ _ _ _ Tryz.func147 tie147 X147) (ST.Ok.at _ _ _ _ Tryz.func156 tie156 X156)) (ST.Ok.node _ _ _ (ST.Ok.at _ _ _ _ Tryz.func157 tie157 X157) (ST.Ok.at _ _ _ _ Tryz.func158 tie158 X158))) (ST.Ok.node _ _ _ (ST.Ok.node _ _ _ (ST.Ok.at _ _ _ _ Tryz.func159 tie159 X159) (ST.Ok.at _ _ _ _ Tryz.func160 tie160 X160)) (ST.Ok.node _ _ _ (ST.Ok.at _ _ _ _ Tryz.func162 tie162 X162) (ST.Ok.at _ _ _ _ Tryz.func163 tie163 X163))))) (ST.Ok.node _ _ _ (ST.Ok.node _ _ _ (ST.Ok.node _ _ _ (ST.Ok.node _ _ _ (ST.Ok.at _ _ _ _ Tryz.func164 tie164 X164) (ST.Ok.at _ _ _ _ Tryz.func165 tie165 X165)) (ST.Ok.node _ _ _ (ST.Ok.at _ _ _ _ Tryz.func166 tie166 X166) (ST.Ok.at _ _ _ _ Tryz.func167 tie167 X167))) (ST.Ok.node _ _ _ (ST.Ok.node _ _ _ (ST.Ok.at _ _ _ _ Tryz.func168 tie168 X168) (ST.Ok.at _ _ _ _ Tryz.func169 tie169 X169)) (ST.Ok.node _ _ _ (ST.Ok.at _ _ _ _ Tryz.func178 tie178 X178) (ST.Ok.at _ _ _ _ Tryz.func179 tie179 X179)))) (ST.Ok.node _ _ _ (ST.Ok.node _ _ _ (ST.Ok.node _ _ _ (ST.Ok.at _ _ _ _ Tryz.func184 tie184 X184) (ST.Ok.at _ _ _ _ Tryz.func187 tie187 X187)) (ST.Ok.node _ _ _ (ST.Ok.at _ _ _ _ Tryz.func188 tie188 X188) (ST.Ok.at _ _ _ _ Tryz.func190 tie190 X190))) (ST.Ok.node _ _ _ (ST.Ok.node _ _ _ (ST.Ok.at _ _ _ _ Tryz.func199 tie199 X199) (ST.Ok.at _ _ _ _ Tryz.func201 tie201 X201)) (ST.Ok.node _ _ _ (ST.Ok.at _ _ _ _ Tryz.func202 tie202 X202) (ST.Ok.at _ _ _ _ Tryz.func203 tie203 X203))))))
end Go.Proofs.YtcoldhmbmcdemaaGreat.Sx
