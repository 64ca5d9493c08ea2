/- The printed code is what the translation makes of the loaded program. -/
import Derived.Test.YtnpadfengpoehaaGreatDoorSx1
import Derived.Test.YtnpadfengpoehaaGreatDoorRows
set_option linter.unusedSectionVars false
namespace Go.Proofs.YtnpadfengpoehaaGreatDoor.Sx
open Go Go.Proofs.YtnpadfengpoehaaGreatDoor.Ev
variable [Rho]
theorem tie83 : trFn Tryz.prog Tryz.f83 = some x83.fn := by kernel_rfl
theorem tie84 : trFn Tryz.prog Tryz.f84 = some x84.fn := by kernel_rfl
theorem tie85 : trFn Tryz.prog Tryz.f85 = some x85.fn := by kernel_rfl
theorem tie86 : trFn Tryz.prog Tryz.f86 = some x86.fn := by kernel_rfl
theorem tie87 : trFn Tryz.prog Tryz.f87 = some x87.fn := by kernel_rfl
theorem tie88 : trFn Tryz.prog Tryz.f88 = some x88.fn := by kernel_rfl
theorem tie90 : trFn Tryz.prog Tryz.f90 = some x90.fn := by kernel_rfl
theorem tie91 : trFn Tryz.prog Tryz.f91 = some x91.fn := by kernel_rfl
theorem tie92 : trFn Tryz.prog Tryz.f92 = some x92.fn := by kernel_rfl
theorem tie94 : trFn Tryz.prog Tryz.f94 = some x94.fn := by kernel_rfl
theorem tie97 : trFn Tryz.prog Tryz.f97 = some x97.fn := by kernel_rfl
theorem tie98 : trFn Tryz.prog Tryz.f98 = some x98.fn := by kernel_rfl
theorem tie100 : trFn Tryz.prog Tryz.f100 = some x100.fn := by kernel_rfl
theorem tie108 : trFn Tryz.prog Tryz.f108 = some x108.fn := by kernel_rfl
theorem tie109 : trFn Tryz.prog Tryz.f109 = some x109.fn := by kernel_rfl
theorem tie110 : trFn Tryz.prog Tryz.f110 = some x110.fn := by kernel_rfl
theorem tie111 : trFn Tryz.prog Tryz.f111 = some x111.fn := by kernel_rfl
theorem tie119 : trFn Tryz.prog Tryz.f119 = some x119.fn := by kernel_rfl
theorem tie120 : trFn Tryz.prog Tryz.f120 = some x120.fn := by kernel_rfl
theorem tie121 : trFn Tryz.prog Tryz.f121 = some x121.fn := by kernel_rfl
theorem tie122 : trFn Tryz.prog Tryz.f122 = some x122.fn := by kernel_rfl
theorem tie123 : trFn Tryz.prog Tryz.f123 = some x123.fn := by kernel_rfl
theorem tie129 : trFn Tryz.prog Tryz.f129 = some x129.fn := by kernel_rfl
theorem tie130 : trFn Tryz.prog Tryz.f130 = some x130.fn := by kernel_rfl
theorem tie132 : trFn Tryz.prog Tryz.f132 = some x132.fn := by kernel_rfl
theorem tie142 : trFn Tryz.prog Tryz.f142 = some x142.fn := by kernel_rfl
theorem tie143 : trFn Tryz.prog Tryz.f143 = some x143.fn := by kernel_rfl
theorem tie144 : trFn Tryz.prog Tryz.f144 = some x144.fn := by kernel_rfl
theorem tie145 : trFn Tryz.prog Tryz.f145 = some x145.fn := by kernel_rfl
theorem tie152 : trFn Tryz.prog Tryz.f152 = some x152.fn := by kernel_rfl
theorem tie163 : trFn Tryz.prog Tryz.f163 = some x163.fn := by kernel_rfl
theorem tie164 : trFn Tryz.prog Tryz.f164 = some x164.fn := by kernel_rfl
theorem tie166 : trFn Tryz.prog Tryz.f166 = some x166.fn := by kernel_rfl
theorem tie178 : trFn Tryz.prog Tryz.f178 = some x178.fn := by kernel_rfl
theorem tie181 : trFn Tryz.prog Tryz.f181 = some x181.fn := by kernel_rfl
theorem tie198 : trFn Tryz.prog Tryz.f198 = some x198.fn := by kernel_rfl
noncomputable def tr1 : ST := (ST.node 119 (ST.node 92 (ST.node 86 (ST.node 84 (ST.node 83 (ST.at 83 x83 S83) (ST.at 84 x84 S84)) (ST.node 85 (ST.at 85 x85 S85) (ST.at 86 x86 S86))) (ST.node 88 (ST.node 87 (ST.at 87 x87 S87) (ST.at 88 x88 S88)) (ST.node 90 (ST.at 90 x90 S90) (ST.node 91 (ST.at 91 x91 S91) (ST.at 92 x92 S92))))) (ST.node 100 (ST.node 97 (ST.node 94 (ST.at 94 x94 S94) (ST.at 97 x97 S97)) (ST.node 98 (ST.at 98 x98 S98) (ST.at 100 x100 S100))) (ST.node 109 (ST.node 108 (ST.at 108 x108 S108) (ST.at 109 x109 S109)) (ST.node 110 (ST.at 110 x110 S110) (ST.node 111 (ST.at 111 x111 S111) (ST.at 119 x119 S119)))))) (ST.node 143 (ST.node 123 (ST.node 121 (ST.node 120 (ST.at 120 x120 S120) (ST.at 121 x121 S121)) (ST.node 122 (ST.at 122 x122 S122) (ST.at 123 x123 S123))) (ST.node 130 (ST.node 129 (ST.at 129 x129 S129) (ST.at 130 x130 S130)) (ST.node 132 (ST.at 132 x132 S132) (ST.node 142 (ST.at 142 x142 S142) (ST.at 143 x143 S143))))) (ST.node 163 (ST.node 145 (ST.node 144 (ST.at 144 x144 S144) (ST.at 145 x145 S145)) (ST.node 152 (ST.at 152 x152 S152) (ST.at 163 x163 S163))) (ST.node 166 (ST.node 164 (ST.at 164 x164 S164) (ST.at 166 x166 S166)) (ST.node 178 (ST.at 178 x178 S178) (ST.node 181 (ST.at 181 x181 S181) (ST.at 198 x198 S198)))))))
theorem ok1 : ST.Ok Tryz.prog tr1 := (ST.Ok.node _ _ _ (ST.Ok.node _ _ _ (ST.Ok.node _ _ _ (ST.Ok.node _ _ _ (ST.Ok.node _ _ _ (ST.Ok.at _ _ _ _ Tryz.func83 tie83 X83) (ST.Ok.at _ _ _ _ Tryz.func84 tie84 X84)) (ST.Ok.node _ _ _ (ST.Ok.at _ _ _ _ Tryz.func85 tie85 X85) (ST.Ok.at _ _ _ _ Tryz.func86 tie86 X86))) (ST.Ok.node _ _ _ (ST.Ok.node _ _ _ (ST.Ok.at _ _ _ _ Tryz.func87 tie87 X87) (ST.Ok.at _ _ _ _ Tryz.func88 tie88 X88)) (ST.Ok.node _ _ _ (ST.Ok.at _ _ _ _ Tryz.func90 tie90 X90) (ST.Ok.node _ _ _ (ST.Ok.at _ _ _ _ Tryz.func91 tie91 X91) (ST.Ok.at _ _ _ _ Tryz.func92 tie92 X92))))) (ST.Ok.node _ _ _ (ST.Ok.node _ _ _ (ST.Ok.node _ _ _ (ST.Ok.at _ _ _ _ Tryz.func94 tie94 X94) (ST.Ok.at _ _ _ _ Tryz.func97 tie97 X97)) (ST.Ok.node _ _ _ (ST.Ok.at _ _ _ _ Tryz.func98 tie98 X98) (ST.Ok.at _ _ _ _ Tryz.func100 tie100 X100))) (ST.Ok.node _ _ _ (ST.Ok.node _ _ _ (ST.Ok.at _ _ _ _ Tryz.func108 tie108 X108) (ST.Ok.at _ _ _ _ Tryz.func109 tie109 X109)) (ST.Ok.node _ _ _ (ST.Ok.at _ _ _ _ Tryz.func110 tie110 X110) (ST.Ok.node _ _ _ (ST.Ok.at _ _ _ _ Tryz.func111 tie111 X111) (ST.Ok.at _ _ _ _ Tryz.func119 tie119 X119)))))) (ST.Ok.node _ _ _ (ST.Ok.node _ _ _ (ST.Ok.node _ _ _ (ST.Ok.node _ _ _ (ST.Ok.at _ _ _ _ Tryz.func120 tie120 X120) (ST.Ok.at _ _ _ _ Tryz.func121 tie121 X121)) (ST.Ok.node _ _ _ (ST.Ok.at _ _ _ _ Tryz.func122 tie122 X122) (ST.Ok.at _ _ _ _ Tryz.func123 tie123 X123))) (ST.Ok.node _ _ _ (ST.Ok.node _ _ _ (ST.Ok.at _ _ _ _ Tryz.func129 tie129 X129) (ST.Ok.at _ _ _ _ Tryz.func130 tie130 X130)) (ST.Ok.node _ _ _ (ST.Ok.at _ _ _ _ Tryz.func132 tie132 X132) (ST.Ok.node _ _ _ (ST.Ok.at _ _ _ _ Tryz.func142 tie142 X142) (ST.Ok.at _ _ _ _ Tryz.func143 tie143 X143))))) (ST.Ok.node _ _ _ (ST.Ok.node _ _ _ (ST.Ok.node _ _ _ (ST.Ok.at _ _ _ _ Tryz.func144 tie144 X144) (ST.Ok.at _ _ _ _ Tryz.func145 tie145 X145)) (ST.Ok.node _ _ _ (ST.Ok.at _ _ _ _ Tryz.func152 tie152 X152) (ST.Ok.at _ _ _ _ Tryz.func163 tie163 X163))) (ST.Ok.node _ _ _ (ST.Ok.node _ _ _ (ST.Ok.at _ _ _ _ Tryz.func164 tie164 X164) (ST.Ok.at _ _ _ _ Tryz.func166 tie166 X166)) (ST.Ok.node _ _ _ (ST.Ok.at _ _ _ _ Tryz.func178 tie178 X178) (ST.Ok.node _ _ _ (ST.Ok.at _ _ _ _ Tryz.func181 tie181 X181) (ST.Ok.at _ _ _ _ Tryz.func198 tie198 X198)))))))
end Go.Proofs.YtnpadfengpoehaaGreatDoor.Sx
