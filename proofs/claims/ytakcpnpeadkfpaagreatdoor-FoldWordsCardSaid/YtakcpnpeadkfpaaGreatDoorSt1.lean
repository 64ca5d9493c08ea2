/- The printed code is what the translation makes of the loaded program. -/
import Derived.Test.YtakcpnpeadkfpaaGreatDoorSx1
import Derived.Test.YtakcpnpeadkfpaaGreatDoorRows
set_option linter.unusedSectionVars false
namespace Go.Proofs.YtakcpnpeadkfpaaGreatDoor.Sx
open Go Go.Proofs.YtakcpnpeadkfpaaGreatDoor.Ev
variable [Rho]
theorem tie59 : trFn Tryz.prog Tryz.f59 = some x59.fn := by kernel_rfl
theorem tie60 : trFn Tryz.prog Tryz.f60 = some x60.fn := by kernel_rfl
theorem tie61 : trFn Tryz.prog Tryz.f61 = some x61.fn := by kernel_rfl
theorem tie62 : trFn Tryz.prog Tryz.f62 = some x62.fn := by kernel_rfl
theorem tie63 : trFn Tryz.prog Tryz.f63 = some x63.fn := by kernel_rfl
theorem tie64 : trFn Tryz.prog Tryz.f64 = some x64.fn := by kernel_rfl
theorem tie65 : trFn Tryz.prog Tryz.f65 = some x65.fn := by kernel_rfl
theorem tie66 : trFn Tryz.prog Tryz.f66 = some x66.fn := by kernel_rfl
theorem tie67 : trFn Tryz.prog Tryz.f67 = some x67.fn := by kernel_rfl
theorem tie68 : trFn Tryz.prog Tryz.f68 = some x68.fn := by kernel_rfl
theorem tie69 : trFn Tryz.prog Tryz.f69 = some x69.fn := by kernel_rfl
theorem tie70 : trFn Tryz.prog Tryz.f70 = some x70.fn := by kernel_rfl
theorem tie71 : trFn Tryz.prog Tryz.f71 = some x71.fn := by kernel_rfl
theorem tie72 : trFn Tryz.prog Tryz.f72 = some x72.fn := by kernel_rfl
theorem tie73 : trFn Tryz.prog Tryz.f73 = some x73.fn := by kernel_rfl
theorem tie75 : trFn Tryz.prog Tryz.f75 = some x75.fn := by kernel_rfl
theorem tie77 : trFn Tryz.prog Tryz.f77 = some x77.fn := by kernel_rfl
theorem tie78 : trFn Tryz.prog Tryz.f78 = some x78.fn := by kernel_rfl
theorem tie79 : trFn Tryz.prog Tryz.f79 = some x79.fn := by kernel_rfl
theorem tie82 : trFn Tryz.prog Tryz.f82 = some x82.fn := by kernel_rfl
theorem tie83 : trFn Tryz.prog Tryz.f83 = some x83.fn := by kernel_rfl
theorem tie85 : trFn Tryz.prog Tryz.f85 = some x85.fn := by kernel_rfl
theorem tie86 : trFn Tryz.prog Tryz.f86 = some x86.fn := by kernel_rfl
theorem tie88 : trFn Tryz.prog Tryz.f88 = some x88.fn := by kernel_rfl
theorem tie89 : trFn Tryz.prog Tryz.f89 = some x89.fn := by kernel_rfl
theorem tie90 : trFn Tryz.prog Tryz.f90 = some x90.fn := by kernel_rfl
theorem tie92 : trFn Tryz.prog Tryz.f92 = some x92.fn := by kernel_rfl
theorem tie94 : trFn Tryz.prog Tryz.f94 = some x94.fn := by kernel_rfl
theorem tie95 : trFn Tryz.prog Tryz.f95 = some x95.fn := by kernel_rfl
theorem tie96 : trFn Tryz.prog Tryz.f96 = some x96.fn := by kernel_rfl
theorem tie97 : trFn Tryz.prog Tryz.f97 = some x97.fn := by kernel_rfl
theorem tie98 : trFn Tryz.prog Tryz.f98 = some x98.fn := by kernel_rfl
theorem tie99 : trFn Tryz.prog Tryz.f99 = some x99.fn := by kernel_rfl
theorem tie100 : trFn Tryz.prog Tryz.f100 = some x100.fn := by kernel_rfl
theorem tie101 : trFn Tryz.prog Tryz.f101 = some x101.fn := by kernel_rfl
theorem tie102 : trFn Tryz.prog Tryz.f102 = some x102.fn := by kernel_rfl
theorem tie103 : trFn Tryz.prog Tryz.f103 = some x103.fn := by kernel_rfl
theorem tie106 : trFn Tryz.prog Tryz.f106 = some x106.fn := by kernel_rfl
theorem tie107 : trFn Tryz.prog Tryz.f107 = some x107.fn := by kernel_rfl
theorem tie108 : trFn Tryz.prog Tryz.f108 = some x108.fn := by kernel_rfl
theorem tie109 : trFn Tryz.prog Tryz.f109 = some x109.fn := by kernel_rfl
theorem tie110 : trFn Tryz.prog Tryz.f110 = some x110.fn := by kernel_rfl
theorem tie111 : trFn Tryz.prog Tryz.f111 = some x111.fn := by kernel_rfl
theorem tie114 : trFn Tryz.prog Tryz.f114 = some x114.fn := by kernel_rfl
theorem tie115 : trFn Tryz.prog Tryz.f115 = some x115.fn := by kernel_rfl
theorem tie116 : trFn Tryz.prog Tryz.f116 = some x116.fn := by kernel_rfl
theorem tie117 : trFn Tryz.prog Tryz.f117 = some x117.fn := by kernel_rfl
theorem tie121 : trFn Tryz.prog Tryz.f121 = some x121.fn := by kernel_rfl
theorem tie122 : trFn Tryz.prog Tryz.f122 = some x122.fn := by kernel_rfl
theorem tie125 : trFn Tryz.prog Tryz.f125 = some x125.fn := by kernel_rfl
theorem tie128 : trFn Tryz.prog Tryz.f128 = some x128.fn := by kernel_rfl
theorem tie129 : trFn Tryz.prog Tryz.f129 = some x129.fn := by kernel_rfl
theorem tie130 : trFn Tryz.prog Tryz.f130 = some x130.fn := by kernel_rfl
theorem tie131 : trFn Tryz.prog Tryz.f131 = some x131.fn := by kernel_rfl
theorem tie132 : trFn Tryz.prog Tryz.f132 = some x132.fn := by kernel_rfl
theorem tie133 : trFn Tryz.prog Tryz.f133 = some x133.fn := by kernel_rfl
theorem tie134 : trFn Tryz.prog Tryz.f134 = some x134.fn := by kernel_rfl
theorem tie135 : trFn Tryz.prog Tryz.f135 = some x135.fn := by kernel_rfl
theorem tie136 : trFn Tryz.prog Tryz.f136 = some x136.fn := by kernel_rfl
theorem tie139 : trFn Tryz.prog Tryz.f139 = some x139.fn := by kernel_rfl
theorem tie143 : trFn Tryz.prog Tryz.f143 = some x143.fn := by kernel_rfl
noncomputable def tr1 : ST := (ST.node 96 (ST.node 73 (ST.node 65 (ST.node 61 (ST.node 59 (ST.at 59 x59 S59) (ST.node 60 (ST.at 60 x60 S60) (ST.at 61 x61 S61))) (ST.node 63 (ST.node 62 (ST.at 62 x62 S62) (ST.at 63 x63 S63)) (ST.node 64 (ST.at 64 x64 S64) (ST.at 65 x65 S65)))) (ST.node 69 (ST.node 67 (ST.node 66 (ST.at 66 x66 S66) (ST.at 67 x67 S67)) (ST.node 68 (ST.at 68 x68 S68) (ST.at 69 x69 S69))) (ST.node 71 (ST.node 70 (ST.at 70 x70 S70) (ST.at 71 x71 S71)) (ST.node 72 (ST.at 72 x72 S72) (ST.at 73 x73 S73))))) (ST.node 85 (ST.node 78 (ST.node 75 (ST.at 75 x75 S75) (ST.node 77 (ST.at 77 x77 S77) (ST.at 78 x78 S78))) (ST.node 82 (ST.node 79 (ST.at 79 x79 S79) (ST.at 82 x82 S82)) (ST.node 83 (ST.at 83 x83 S83) (ST.at 85 x85 S85)))) (ST.node 90 (ST.node 88 (ST.node 86 (ST.at 86 x86 S86) (ST.at 88 x88 S88)) (ST.node 89 (ST.at 89 x89 S89) (ST.at 90 x90 S90))) (ST.node 94 (ST.node 92 (ST.at 92 x92 S92) (ST.at 94 x94 S94)) (ST.node 95 (ST.at 95 x95 S95) (ST.at 96 x96 S96)))))) (ST.node 115 (ST.node 103 (ST.node 99 (ST.node 97 (ST.at 97 x97 S97) (ST.node 98 (ST.at 98 x98 S98) (ST.at 99 x99 S99))) (ST.node 101 (ST.node 100 (ST.at 100 x100 S100) (ST.at 101 x101 S101)) (ST.node 102 (ST.at 102 x102 S102) (ST.at 103 x103 S103)))) (ST.node 109 (ST.node 107 (ST.node 106 (ST.at 106 x106 S106) (ST.at 107 x107 S107)) (ST.node 108 (ST.at 108 x108 S108) (ST.at 109 x109 S109))) (ST.node 111 (ST.node 110 (ST.at 110 x110 S110) (ST.at 111 x111 S111)) (ST.node 114 (ST.at 114 x114 S114) (ST.at 115 x115 S115))))) (ST.node 130 (ST.node 122 (ST.node 117 (ST.node 116 (ST.at 116 x116 S116) (ST.at 117 x117 S117)) (ST.node 121 (ST.at 121 x121 S121) (ST.at 122 x122 S122))) (ST.node 128 (ST.node 125 (ST.at 125 x125 S125) (ST.at 128 x128 S128)) (ST.node 129 (ST.at 129 x129 S129) (ST.at 130 x130 S130)))) (ST.node 134 (ST.node 132 (ST.node 131 (ST.at 131 x131 S131) (ST.at 132 x132 S132)) (ST.node 133 (ST.at 133 x133 S133) (ST.at 134 x134 S134))) (ST.node 136 (ST.node 135 (ST.at 135 x135 S135) (ST.at 136 x136 S136)) (ST.node 139 (ST.at 139 x139 S139) (ST.at 143 x143 S143)))))))
theorem ok1 : ST.Ok Tryz.prog tr1 := (ST.Ok.node _ _ _ (ST.Ok.node _ _ _ (ST.Ok.node _ _ _ (ST.Ok.node _ _ _ (ST.Ok.node _ _ _ (ST.Ok.at _ _ _ _ Tryz.func59 tie59 X59) (ST.Ok.node _ _ _ (ST.Ok.at _ _ _ _ Tryz.func60 tie60 X60) (ST.Ok.at _ _ _ _ Tryz.func61 tie61 X61))) (ST.Ok.node _ _ _ (ST.Ok.node _ _ _ (ST.Ok.at _ _ _ _ Tryz.func62 tie62 X62) (ST.Ok.at _ _ _ _ Tryz.func63 tie63 X63)) (ST.Ok.node _ _ _ (ST.Ok.at _ _ _ _ Tryz.func64 tie64 X64) (ST.Ok.at _ _ _ _ Tryz.func65 tie65 X65)))) (ST.Ok.node _ _ _ (ST.Ok.node _ _ _ (ST.Ok.node _ _ _ (ST.Ok.at _ _ _ _ Tryz.func66 tie66 X66) (ST.Ok.at _ _ _ _ Tryz.func67 tie67 X67)) (ST.Ok.node _ _ _ (ST.Ok.at _ _ _ _ Tryz.func68 tie68 X68) (ST.Ok.at _ _ _ _ Tryz.func69 tie69 X69))) (ST.Ok.node _ _ _ (ST.Ok.node _ _ _ (ST.Ok.at _ _ _ _ Tryz.func70 tie70 X70) (ST.Ok.at _ _ _ _ Tryz.func71 tie71 X71)) (ST.Ok.node _ _ _ (ST.Ok.at _ _ _ _ Tryz.func72 tie72 X72) (ST.Ok.at _ _ _ _ Tryz.func73 tie73 X73))))) (ST.Ok.node _ _ _ (ST.Ok.node _ _ _ (ST.Ok.node _ _ _ (ST.Ok.at _ _ _ _ Tryz.func75 tie75 X75) (ST.Ok.node _ _ _ (ST.Ok.at _ _ _ _ Tryz.func77 tie77 X77) (ST.Ok.at _ _ _ _ Tryz.func78 tie78 X78))) (ST.Ok.node _ _ _ (ST.Ok.node _ _ _ (ST.Ok.at _ _ _ _ Tryz.func79 tie79 X79) (ST.Ok.at _ _ _ _ Tryz.func82 tie82 X82)) (ST.Ok.node _ _ _ (ST.Ok.at _ _ _ _ Tryz.func83 tie83 X83) (ST.Ok.at _ _ _ _ Tryz.func85 tie85 X85)))) (ST.Ok.node _ _ _ (ST.Ok.node _ _ _ (ST.Ok.node _ _ _ (ST.Ok.at _ _ _ _ Tryz.func86 tie86 X86) (ST.Ok.at _ _ _ _ Tryz.func88 tie88 X88)) (ST.Ok.node _ _ _ (ST.Ok.at _ _ _ _ Tryz.func89 tie89 X89) (ST.Ok.at _ _ _ _ Tryz.func90 tie90 X90))) (ST.Ok.node _ _ _ (ST.Ok.node _ _ _ (ST.Ok.at _ _ _ _ Tryz.func92 tie92 X92) (ST.Ok.at _ _ _ _ Tryz.func94 tie94 X94)) (ST.Ok.node _ _ _ (ST.Ok.at _ _ _ _ Tryz.func95 tie95 X95) (ST.Ok.at _ _ _ _ Tryz.func96 tie96 X96)))))) (ST.Ok.node _ _ _ (ST.Ok.node _ _ _ (ST.Ok.node _ _ _ (ST.Ok.node _ _ _ (ST.Ok.at _ _ _ _ Tryz.func97 tie97 X97) (ST.Ok.node _ _ _ (ST.Ok.at _ _ _ _ Tryz.func98 tie98 X98) (ST.Ok.at _ _ _ _ Tryz.func99 tie99 X99))) (ST.Ok.node _ _ _ (ST.Ok.node _ _ _ (ST.Ok.at _ _ _ _ Tryz.func100 tie100 X100) (ST.Ok.at _ _ _ _ Tryz.func101 tie101 X101)) (ST.Ok.node _ _ _ (ST.Ok.at _ _ _ _ Tryz.func102 tie102 X102) (ST.Ok.at _ _ _ _ Tryz.func103 tie103 X103)))) (ST.Ok.node _ _ _ (ST.Ok.node _ _ _ (ST.Ok.node _ _ _ (ST.Ok.at _ _ _ _ Tryz.func106 tie106 X106) (ST.Ok.at _ _ _ _ Tryz.func107 tie107 X107)) (ST.Ok.node _ _ _ (ST.Ok.at _ _ _ _ Tryz.func108 tie108 X108) (ST.Ok.at _ _ _ _ Tryz.func109 tie109 X109))) (ST.Ok.node _ _ _ (ST.Ok.node _ _ _ (ST.Ok.at _ _ _ _ Tryz.func110 tie110 X110) (ST.Ok.at _ _ _ _ Tryz.func111 tie111 X111)) (ST.Ok.node _ _ _ (ST.Ok.at _ _ _ _ Tryz.func114 tie114 X114) (ST.Ok.at _ _ _ _ Tryz.func115 tie115 X115))))) (ST.Ok.node _ _ _ (ST.Ok.node _ _ _ (ST.Ok.node _ _ _ (ST.Ok.node _ _ _ (ST.Ok.at _ _ _ _ Tryz.func116 tie116 X116) (ST.Ok.at _ _ _ _ Tryz.func117 tie117 X117)) (ST.Ok.node _ _ _ (ST.Ok.at _ _ _ _ Tryz.func121 tie121 X121) (ST.Ok.at _ _ _ _ Tryz.func122 tie122 X122))) (ST.Ok.node _ _ _ (ST.Ok.node _ _ _ (ST.Ok.at _ _ _ _ Tryz.func125 tie125 X125) (ST.Ok.at _ _ _ _ Tryz.func128 tie128 X128)) (ST.Ok.node _ _ _ (ST.Ok.at _ _ _ _ Tryz.func129 tie129 X129) (ST.Ok.at _ _ _ _ Tryz.func130 tie130 X130)))) (ST.Ok.node _ _ _ (ST.Ok.node _ _ _ (ST.Ok.node _ _ _ (ST.Ok.at _ _ _ _ Tryz.func131 tie131 X131) (ST.Ok.at _ _ _ _ Tryz.func132 tie132 X132)) (ST.Ok.node _ _ _ (ST.Ok.at _ _ _ _ Tryz.func133 tie133 X133) (ST.Ok.at _ _ _ _ Tryz.func134 tie134 X134))) (ST.Ok.node _ _ _ (ST.Ok.node _ _ _ (ST.Ok.at _ _ _ _ Tryz.func135 tie135 X135) (ST.Ok.at _ _ _ _ Tryz.func136 tie136 X136)) (ST.Ok.node _ _ _ (ST.Ok.at _ _ _ _ Tryz.func139 tie139 X139) (ST.Ok.at _ _ _ _ Tryz.func143 tie143 X143)))))))
end Go.Proofs.YtakcpnpeadkfpaaGreatDoor.Sx
