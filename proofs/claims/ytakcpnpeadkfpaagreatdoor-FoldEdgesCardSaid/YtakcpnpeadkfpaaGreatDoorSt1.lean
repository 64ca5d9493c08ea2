/- The printed code is what the translation makes of the loaded program. -/
import Derived.Test.YtakcpnpeadkfpaaGreatDoorSx1
import Derived.Test.YtakcpnpeadkfpaaGreatDoorRows
set_option linter.unusedSectionVars false
namespace Go.Proofs.YtakcpnpeadkfpaaGreatDoor.Sx
open Go Go.Proofs.YtakcpnpeadkfpaaGreatDoor.Ev
variable [Rho]
theorem tie75 : trFn Tryz.prog Tryz.f75 = some x75.fn := by kernel_rfl
theorem tie77 : trFn Tryz.prog Tryz.f77 = some x77.fn := by kernel_rfl
theorem tie78 : trFn Tryz.prog Tryz.f78 = some x78.fn := by kernel_rfl
theorem tie79 : trFn Tryz.prog Tryz.f79 = some x79.fn := by kernel_rfl
theorem tie82 : trFn Tryz.prog Tryz.f82 = some x82.fn := by kernel_rfl
theorem tie83 : trFn Tryz.prog Tryz.f83 = some x83.fn := by kernel_rfl
theorem tie85 : trFn Tryz.prog Tryz.f85 = some x85.fn := by kernel_rfl
theorem tie86 : trFn Tryz.prog Tryz.f86 = some x86.fn := by kernel_rfl
theorem tie88 : trFn Tryz.prog Tryz.f88 = some x88.fn := by kernel_rfl
theorem tie89 : trFn Tryz.prog Tryz.f89 = some x89.fn := by kernel_rfl
theorem tie90 : trFn Tryz.prog Tryz.f90 = some x90.fn := by kernel_rfl
theorem tie92 : trFn Tryz.prog Tryz.f92 = some x92.fn := by kernel_rfl
theorem tie101 : trFn Tryz.prog Tryz.f101 = some x101.fn := by kernel_rfl
theorem tie102 : trFn Tryz.prog Tryz.f102 = some x102.fn := by kernel_rfl
theorem tie103 : trFn Tryz.prog Tryz.f103 = some x103.fn := by kernel_rfl
theorem tie106 : trFn Tryz.prog Tryz.f106 = some x106.fn := by kernel_rfl
theorem tie107 : trFn Tryz.prog Tryz.f107 = some x107.fn := by kernel_rfl
theorem tie108 : trFn Tryz.prog Tryz.f108 = some x108.fn := by kernel_rfl
theorem tie109 : trFn Tryz.prog Tryz.f109 = some x109.fn := by kernel_rfl
theorem tie110 : trFn Tryz.prog Tryz.f110 = some x110.fn := by kernel_rfl
theorem tie111 : trFn Tryz.prog Tryz.f111 = some x111.fn := by kernel_rfl
theorem tie114 : trFn Tryz.prog Tryz.f114 = some x114.fn := by kernel_rfl
theorem tie115 : trFn Tryz.prog Tryz.f115 = some x115.fn := by kernel_rfl
theorem tie116 : trFn Tryz.prog Tryz.f116 = some x116.fn := by kernel_rfl
theorem tie117 : trFn Tryz.prog Tryz.f117 = some x117.fn := by kernel_rfl
theorem tie121 : trFn Tryz.prog Tryz.f121 = some x121.fn := by kernel_rfl
theorem tie122 : trFn Tryz.prog Tryz.f122 = some x122.fn := by kernel_rfl
theorem tie125 : trFn Tryz.prog Tryz.f125 = some x125.fn := by kernel_rfl
theorem tie135 : trFn Tryz.prog Tryz.f135 = some x135.fn := by kernel_rfl
theorem tie136 : trFn Tryz.prog Tryz.f136 = some x136.fn := by kernel_rfl
theorem tie139 : trFn Tryz.prog Tryz.f139 = some x139.fn := by kernel_rfl
theorem tie143 : trFn Tryz.prog Tryz.f143 = some x143.fn := by kernel_rfl
theorem tie145 : trFn Tryz.prog Tryz.f145 = some x145.fn := by kernel_rfl
theorem tie146 : trFn Tryz.prog Tryz.f146 = some x146.fn := by kernel_rfl
theorem tie149 : trFn Tryz.prog Tryz.f149 = some x149.fn := by kernel_rfl
theorem tie150 : trFn Tryz.prog Tryz.f150 = some x150.fn := by kernel_rfl
theorem tie152 : trFn Tryz.prog Tryz.f152 = some x152.fn := by kernel_rfl
theorem tie154 : trFn Tryz.prog Tryz.f154 = some x154.fn := by kernel_rfl
theorem tie170 : trFn Tryz.prog Tryz.f170 = some x170.fn := by kernel_rfl
theorem tie176 : trFn Tryz.prog Tryz.f176 = some x176.fn := by kernel_rfl
theorem tie177 : trFn Tryz.prog Tryz.f177 = some x177.fn := by kernel_rfl
noncomputable def tr1 : ST := (ST.node 110 (ST.node 89 (ST.node 82 (ST.node 77 (ST.node 75 (ST.at 75 x75 S75) (ST.at 77 x77 S77)) (ST.node 78 (ST.at 78 x78 S78) (ST.node 79 (ST.at 79 x79 S79) (ST.at 82 x82 S82)))) (ST.node 85 (ST.node 83 (ST.at 83 x83 S83) (ST.at 85 x85 S85)) (ST.node 86 (ST.at 86 x86 S86) (ST.node 88 (ST.at 88 x88 S88) (ST.at 89 x89 S89))))) (ST.node 103 (ST.node 92 (ST.node 90 (ST.at 90 x90 S90) (ST.at 92 x92 S92)) (ST.node 101 (ST.at 101 x101 S101) (ST.node 102 (ST.at 102 x102 S102) (ST.at 103 x103 S103)))) (ST.node 107 (ST.node 106 (ST.at 106 x106 S106) (ST.at 107 x107 S107)) (ST.node 108 (ST.at 108 x108 S108) (ST.node 109 (ST.at 109 x109 S109) (ST.at 110 x110 S110)))))) (ST.node 136 (ST.node 117 (ST.node 114 (ST.node 111 (ST.at 111 x111 S111) (ST.at 114 x114 S114)) (ST.node 115 (ST.at 115 x115 S115) (ST.node 116 (ST.at 116 x116 S116) (ST.at 117 x117 S117)))) (ST.node 122 (ST.node 121 (ST.at 121 x121 S121) (ST.at 122 x122 S122)) (ST.node 125 (ST.at 125 x125 S125) (ST.node 135 (ST.at 135 x135 S135) (ST.at 136 x136 S136))))) (ST.node 149 (ST.node 143 (ST.node 139 (ST.at 139 x139 S139) (ST.at 143 x143 S143)) (ST.node 145 (ST.at 145 x145 S145) (ST.node 146 (ST.at 146 x146 S146) (ST.at 149 x149 S149)))) (ST.node 154 (ST.node 150 (ST.at 150 x150 S150) (ST.node 152 (ST.at 152 x152 S152) (ST.at 154 x154 S154))) (ST.node 170 (ST.at 170 x170 S170) (ST.node 176 (ST.at 176 x176 S176) (ST.at 177 x177 S177)))))))
theorem ok1 : ST.Ok Tryz.prog tr1 := (ST.Ok.node _ _ _ (ST.Ok.node _ _ _ (ST.Ok.node _ _ _ (ST.Ok.node _ _ _ (ST.Ok.node _ _ _ (ST.Ok.at _ _ _ _ Tryz.func75 tie75 X75) (ST.Ok.at _ _ _ _ Tryz.func77 tie77 X77)) (ST.Ok.node _ _ _ (ST.Ok.at _ _ _ _ Tryz.func78 tie78 X78) (ST.Ok.node _ _ _ (ST.Ok.at _ _ _ _ Tryz.func79 tie79 X79) (ST.Ok.at _ _ _ _ Tryz.func82 tie82 X82)))) (ST.Ok.node _ _ _ (ST.Ok.node _ _ _ (ST.Ok.at _ _ _ _ Tryz.func83 tie83 X83) (ST.Ok.at _ _ _ _ Tryz.func85 tie85 X85)) (ST.Ok.node _ _ _ (ST.Ok.at _ _ _ _ Tryz.func86 tie86 X86) (ST.Ok.node _ _ _ (ST.Ok.at _ _ _ _ Tryz.func88 tie88 X88) (ST.Ok.at _ _ _ _ Tryz.func89 tie89 X89))))) (ST.Ok.node _ _ _ (ST.Ok.node _ _ _ (ST.Ok.node _ _ _ (ST.Ok.at _ _ _ _ Tryz.func90 tie90 X90) (ST.Ok.at _ _ _ _ Tryz.func92 tie92 X92)) (ST.Ok.node _ _ _ (ST.Ok.at _ _ _ _ Tryz.func101 tie101 X101) (ST.Ok.node _ _ _ (ST.Ok.at _ _ _ _ Tryz.func102 tie102 X102) (ST.Ok.at _ _ _ _ Tryz.func103 tie103 X103)))) (ST.Ok.node _ _ _ (ST.Ok.node _ _ _ (ST.Ok.at _ _ _ _ Tryz.func106 tie106 X106) (ST.Ok.at _ _ _ _ Tryz.func107 tie107 X107)) (ST.Ok.node _ _ _ (ST.Ok.at _ _ _ _ Tryz.func108 tie108 X108) (ST.Ok.node _ _ _ (ST.Ok.at _ _ _ _ Tryz.func109 tie109 X109) (ST.Ok.at _ _ _ _ Tryz.func110 tie110 X110)))))) (ST.Ok.node _ _ _ (ST.Ok.node _ _ _ (ST.Ok.node _ _ _ (ST.Ok.node _ _ _ (ST.Ok.at _ _ _ _ Tryz.func111 tie111 X111) (ST.Ok.at _ _ _ _ Tryz.func114 tie114 X114)) (ST.Ok.node _ _ _ (ST.Ok.at _ _ _ _ Tryz.func115 tie115 X115) (ST.Ok.node _ _ _ (ST.Ok.at _ _ _ _ Tryz.func116 tie116 X116) (ST.Ok.at _ _ _ _ Tryz.func117 tie117 X117)))) (ST.Ok.node _ _ _ (ST.Ok.node _ _ _ (ST.Ok.at _ _ _ _ Tryz.func121 tie121 X121) (ST.Ok.at _ _ _ _ Tryz.func122 tie122 X122)) (ST.Ok.node _ _ _ (ST.Ok.at _ _ _ _ Tryz.func125 tie125 X125) (ST.Ok.node _ _ _ (ST.Ok.at _ _ _ _ Tryz.func135 tie135 X135) (ST.Ok.at _ _ _ _ Tryz.func136 tie136 X136))))) (ST.Ok.node _ _ _ (ST.Ok.node _ _ _ (ST.Ok.node _ _ _ (ST.Ok.at _ _ _ _ Tryz.func139 tie139 X139) (ST.Ok.at _ _ _ _ Tryz.func143 tie143 X143)) (ST.Ok.node _ _ _ (ST.Ok.at _ _ _ _ Tryz.func145 tie145 X145) (ST.Ok.node _ _ _ (ST.Ok.at _ _ _ _ Tryz.func146 tie146 X146) (ST.Ok.at _ _ _ _ Tryz.func149 tie149 X149)))) (ST.Ok.node _ _ _ (ST.Ok.node _ _ _ (ST.Ok.at _ _ _ _ Tryz.func150 tie150 X150) (ST.Ok.node _ _ _ (ST.Ok.at _ _ _ _ Tryz.func152 tie152 X152) (ST.Ok.at _ _ _ _ Tryz.func154 tie154 X154))) (ST.Ok.node _ _ _ (ST.Ok.at _ _ _ _ Tryz.func170 tie170 X170) (ST.Ok.node _ _ _ (ST.Ok.at _ _ _ _ Tryz.func176 tie176 X176) (ST.Ok.at _ _ _ _ Tryz.func177 tie177 X177)))))))
end Go.Proofs.YtakcpnpeadkfpaaGreatDoor.Sx
