/- The printed code is what the translation makes of the loaded program. -/
import Derived.Test.YtblciblkocameaaGreatSx3
import Derived.Test.YtblciblkocameaaGreatRows
namespace Go.Proofs.YtblciblkocameaaGreat.Sx
open Go Go.Proofs.YtblciblkocameaaGreat.Ev
theorem tie163 : trFn Tryz.prog Tryz.f163 = some x163.fn := by kernel_rfl
theorem tie164 : trFn Tryz.prog Tryz.f164 = some x164.fn := by kernel_rfl
theorem tie166 : trFn Tryz.prog Tryz.f166 = some x166.fn := by kernel_rfl
theorem tie167 : trFn Tryz.prog Tryz.f167 = some x167.fn := by kernel_rfl
theorem tie168 : trFn Tryz.prog Tryz.f168 = some x168.fn := by kernel_rfl
theorem tie170 : trFn Tryz.prog Tryz.f170 = some x170.fn := by kernel_rfl
theorem tie175 : trFn Tryz.prog Tryz.f175 = some x175.fn := by kernel_rfl
theorem tie176 : trFn Tryz.prog Tryz.f176 = some x176.fn := by kernel_rfl
theorem tie177 : trFn Tryz.prog Tryz.f177 = some x177.fn := by kernel_rfl
theorem tie178 : trFn Tryz.prog Tryz.f178 = some x178.fn := by kernel_rfl
theorem tie179 : trFn Tryz.prog Tryz.f179 = some x179.fn := by kernel_rfl
theorem tie180 : trFn Tryz.prog Tryz.f180 = some x180.fn := by kernel_rfl
theorem tie182 : trFn Tryz.prog Tryz.f182 = some x182.fn := by kernel_rfl
theorem tie185 : trFn Tryz.prog Tryz.f185 = some x185.fn := by kernel_rfl
theorem tie187 : trFn Tryz.prog Tryz.f187 = some x187.fn := by kernel_rfl
theorem tie188 : trFn Tryz.prog Tryz.f188 = some x188.fn := by kernel_rfl
theorem tie194 : trFn Tryz.prog Tryz.f194 = some x194.fn := by kernel_rfl
theorem tie195 : trFn Tryz.prog Tryz.f195 = some x195.fn := by kernel_rfl
noncomputable def tr3 : ST := (ST.node 177 (ST.node 167 (ST.node 164 (ST.node 163 (ST.at 163 x163 S163) (ST.at 164 x164 S164)) (ST.node 166 (ST.at 166 x166 S166) (ST.at 167 x167 S167))) (ST.node 170 (ST.node 168 (ST.at 168 x168 S168) (ST.at 170 x170 S170)) (ST.node 175 (ST.at 175 x175 S175) (ST.node 176 (ST.at 176 x176 S176) (ST.at 177 x177 S177))))) (ST.node 182 (ST.node 179 (ST.node 178 (ST.at 178 x178 S178) (ST.at 179 x179 S179)) (ST.node 180 (ST.at 180 x180 S180) (ST.at 182 x182 S182))) (ST.node 187 (ST.node 185 (ST.at 185 x185 S185) (ST.at 187 x187 S187)) (ST.node 188 (ST.at 188 x188 S188) (ST.node 194 (ST.at 194 x194 S194) (ST.at 195 x195 S195))))))
theorem ok3 : ST.Ok Tryz.prog tr3 := (ST.Ok.node _ _ _ (ST.Ok.node _ _ _ (ST.Ok.node _ _ _ (ST.Ok.node _ _ _ (ST.Ok.at _ _ _ _ Tryz.func163 tie163 X163) (ST.Ok.at _ _ _ _ Tryz.func164 tie164 X164)) (ST.Ok.node _ _ _ (ST.Ok.at _ _ _ _ Tryz.func166 tie166 X166) (ST.Ok.at _ _ _ _ Tryz.func167 tie167 X167))) (ST.Ok.node _ _ _ (ST.Ok.node _ _ _ (ST.Ok.at _ _ _ _ Tryz.func168 tie168 X168) (ST.Ok.at _ _ _ _ Tryz.func170 tie170 X170)) (ST.Ok.node _ _ _ (ST.Ok.at _ _ _ _ Tryz.func175 tie175 X175) (ST.Ok.node _ _ _ (ST.Ok.at _ _ _ _ Tryz.func176 tie176 X176) (ST.Ok.at _ _ _ _ Tryz.func177 tie177 X177))))) (ST.Ok.node _ _ _ (ST.Ok.node _ _ _ (ST.Ok.node _ _ _ (ST.Ok.at _ _ _ _ Tryz.func178 tie178 X178) (ST.Ok.at _ _ _ _ Tryz.func179 tie179 X179)) (ST.Ok.node _ _ _ (ST.Ok.at _ _ _ _ Tryz.func180 tie180 X180) (ST.Ok.at _ _ _ _ Tryz.func182 tie182 X182))) (ST.Ok.node _ _ _ (ST.Ok.node _ _ _ (ST.Ok.at _ _ _ _ Tryz.func185 tie185 X185) (ST.Ok.at _ _ _ _ Tryz.func187 tie187 X187)) (ST.Ok.node _ _ _ (ST.Ok.at _ _ _ _ Tryz.func188 tie188 X188) (ST.Ok.node _ _ _ (ST.Ok.at _ _ _ _ Tryz.func194 tie194 X194) (ST.Ok.at _ _ _ _ Tryz.func195 tie195 X195))))))
end Go.Proofs.YtblciblkocameaaGreat.Sx
