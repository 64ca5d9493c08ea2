/- The printed code is what the translation makes of the loaded program. -/
import Derived.Test.YtblciblkocameaaGreatSx1
import Derived.Test.YtblciblkocameaaGreatRows
set_option linter.unusedSectionVars false
namespace Go.Proofs.YtblciblkocameaaGreat.Sx
open Go Go.Proofs.YtblciblkocameaaGreat.Ev
variable [Rho]
theorem tie53 : trFn Tryz.prog Tryz.f53 = some x53.fn := by kernel_rfl
theorem tie55 : trFn Tryz.prog Tryz.f55 = some x55.fn := by kernel_rfl
theorem tie56 : trFn Tryz.prog Tryz.f56 = some x56.fn := by kernel_rfl
theorem tie57 : trFn Tryz.prog Tryz.f57 = some x57.fn := by kernel_rfl
theorem tie58 : trFn Tryz.prog Tryz.f58 = some x58.fn := by kernel_rfl
theorem tie66 : trFn Tryz.prog Tryz.f66 = some x66.fn := by kernel_rfl
theorem tie68 : trFn Tryz.prog Tryz.f68 = some x68.fn := by kernel_rfl
theorem tie69 : trFn Tryz.prog Tryz.f69 = some x69.fn := by kernel_rfl
theorem tie70 : trFn Tryz.prog Tryz.f70 = some x70.fn := by kernel_rfl
theorem tie71 : trFn Tryz.prog Tryz.f71 = some x71.fn := by kernel_rfl
theorem tie72 : trFn Tryz.prog Tryz.f72 = some x72.fn := by kernel_rfl
theorem tie73 : trFn Tryz.prog Tryz.f73 = some x73.fn := by kernel_rfl
theorem tie74 : trFn Tryz.prog Tryz.f74 = some x74.fn := by kernel_rfl
theorem tie75 : trFn Tryz.prog Tryz.f75 = some x75.fn := by kernel_rfl
theorem tie76 : trFn Tryz.prog Tryz.f76 = some x76.fn := by kernel_rfl
theorem tie77 : trFn Tryz.prog Tryz.f77 = some x77.fn := by kernel_rfl
theorem tie78 : trFn Tryz.prog Tryz.f78 = some x78.fn := by kernel_rfl
theorem tie79 : trFn Tryz.prog Tryz.f79 = some x79.fn := by kernel_rfl
theorem tie80 : trFn Tryz.prog Tryz.f80 = some x80.fn := by kernel_rfl
theorem tie81 : trFn Tryz.prog Tryz.f81 = some x81.fn := by kernel_rfl
theorem tie82 : trFn Tryz.prog Tryz.f82 = some x82.fn := by kernel_rfl
theorem tie83 : trFn Tryz.prog Tryz.f83 = some x83.fn := by kernel_rfl
theorem tie84 : trFn Tryz.prog Tryz.f84 = some x84.fn := by kernel_rfl
theorem tie85 : trFn Tryz.prog Tryz.f85 = some x85.fn := by kernel_rfl
theorem tie86 : trFn Tryz.prog Tryz.f86 = some x86.fn := by kernel_rfl
theorem tie87 : trFn Tryz.prog Tryz.f87 = some x87.fn := by kernel_rfl
theorem tie88 : trFn Tryz.prog Tryz.f88 = some x88.fn := by kernel_rfl
theorem tie89 : trFn Tryz.prog Tryz.f89 = some x89.fn := by kernel_rfl
theorem tie90 : trFn Tryz.prog Tryz.f90 = some x90.fn := by kernel_rfl
theorem tie91 : trFn Tryz.prog Tryz.f91 = some x91.fn := by kernel_rfl
theorem tie102 : trFn Tryz.prog Tryz.f102 = some x102.fn := by kernel_rfl
theorem tie105 : trFn Tryz.prog Tryz.f105 = some x105.fn := by kernel_rfl
theorem tie106 : trFn Tryz.prog Tryz.f106 = some x106.fn := by kernel_rfl
theorem tie107 : trFn Tryz.prog Tryz.f107 = some x107.fn := by kernel_rfl
theorem tie108 : trFn Tryz.prog Tryz.f108 = some x108.fn := by kernel_rfl
theorem tie109 : trFn Tryz.prog Tryz.f109 = some x109.fn := by kernel_rfl
theorem tie110 : trFn Tryz.prog Tryz.f110 = some x110.fn := by kernel_rfl
theorem tie112 : trFn Tryz.prog Tryz.f112 = some x112.fn := by kernel_rfl
theorem tie113 : trFn Tryz.prog Tryz.f113 = some x113.fn := by kernel_rfl
theorem tie114 : trFn Tryz.prog Tryz.f114 = some x114.fn := by kernel_rfl
theorem tie115 : trFn Tryz.prog Tryz.f115 = some x115.fn := by kernel_rfl
theorem tie116 : trFn Tryz.prog Tryz.f116 = some x116.fn := by kernel_rfl
noncomputable def tr1 : ST := (ST.node 82 (ST.node 71 (ST.node 58 (ST.node 55 (ST.node 53 (ST.at 53 x53 S53) (ST.at 55 x55 S55)) (ST.node 56 (ST.at 56 x56 S56) (ST.node 57 (ST.at 57 x57 S57) (ST.at 58 x58 S58)))) (ST.node 68 (ST.node 66 (ST.at 66 x66 S66) (ST.at 68 x68 S68)) (ST.node 69 (ST.at 69 x69 S69) (ST.node 70 (ST.at 70 x70 S70) (ST.at 71 x71 S71))))) (ST.node 76 (ST.node 73 (ST.node 72 (ST.at 72 x72 S72) (ST.at 73 x73 S73)) (ST.node 74 (ST.at 74 x74 S74) (ST.node 75 (ST.at 75 x75 S75) (ST.at 76 x76 S76)))) (ST.node 79 (ST.node 77 (ST.at 77 x77 S77) (ST.node 78 (ST.at 78 x78 S78) (ST.at 79 x79 S79))) (ST.node 80 (ST.at 80 x80 S80) (ST.node 81 (ST.at 81 x81 S81) (ST.at 82 x82 S82)))))) (ST.node 102 (ST.node 87 (ST.node 84 (ST.node 83 (ST.at 83 x83 S83) (ST.at 84 x84 S84)) (ST.node 85 (ST.at 85 x85 S85) (ST.node 86 (ST.at 86 x86 S86) (ST.at 87 x87 S87)))) (ST.node 89 (ST.node 88 (ST.at 88 x88 S88) (ST.at 89 x89 S89)) (ST.node 90 (ST.at 90 x90 S90) (ST.node 91 (ST.at 91 x91 S91) (ST.at 102 x102 S102))))) (ST.node 109 (ST.node 106 (ST.node 105 (ST.at 105 x105 S105) (ST.at 106 x106 S106)) (ST.node 107 (ST.at 107 x107 S107) (ST.node 108 (ST.at 108 x108 S108) (ST.at 109 x109 S109)))) (ST.node 113 (ST.node 110 (ST.at 110 x110 S110) (ST.node 112 (ST.at 112 x112 S112) (ST.at 113 x113 S113))) (ST.node 114 (ST.at 114 x114 S114) (ST.node 115 (ST.at 115 x115 S115) (ST.at 116 x116 S116)))))))
theorem ok1 : ST.Ok Tryz.prog tr1 := (ST.Ok.node _ _ _ (ST.Ok.node _ _ _ (ST.Ok.node _ _ _ (ST.Ok.node _ _ _ (ST.Ok.node _ _ _ (ST.Ok.at _ _ _ _ Tryz.func53 tie53 X53) (ST.Ok.at _ _ _ _ Tryz.func55 tie55 X55)) (ST.Ok.node _ _ _ (ST.Ok.at _ _ _ _ Tryz.func56 tie56 X56) (ST.Ok.node _ _ _ (ST.Ok.at _ _ _ _ Tryz.func57 tie57 X57) (ST.Ok.at _ _ _ _ Tryz.func58 tie58 X58)))) (ST.Ok.node _ _ _ (ST.Ok.node _ _ _ (ST.Ok.at _ _ _ _ Tryz.func66 tie66 X66) (ST.Ok.at _ _ _ _ Tryz.func68 tie68 X68)) (ST.Ok.node _ _ _ (ST.Ok.at _ _ _ _ Tryz.func69 tie69 X69) (ST.Ok.node _ _ _ (ST.Ok.at _ _ _ _ Tryz.func70 tie70 X70) (ST.Ok.at _ _ _ _ Tryz.func71 tie71 X71))))) (ST.Ok.node _ _ _ (ST.Ok.node _ _ _ (ST.Ok.node _ _ _ (ST.Ok.at _ _ _ _ Tryz.func72 tie72 X72) (ST.Ok.at _ _ _ _ Tryz.func73 tie73 X73)) (ST.Ok.node _ _ _ (ST.Ok.at _ _ _ _ Tryz.func74 tie74 X74) (ST.Ok.node _ _ _ (ST.Ok.at _ _ _ _ Tryz.func75 tie75 X75) (ST.Ok.at _ _ _ _ Tryz.func76 tie76 X76)))) (ST.Ok.node _ _ _ (ST.Ok.node _ _ _ (ST.Ok.at _ _ _ _ Tryz.func77 tie77 X77) (ST.Ok.node _ _ _ (ST.Ok.at _ _ _ _ Tryz.func78 tie78 X78) (ST.Ok.at _ _ _ _ Tryz.func79 tie79 X79))) (ST.Ok.node _ _ _ (ST.Ok.at _ _ _ _ Tryz.func80 tie80 X80) (ST.Ok.node _ _ _ (ST.Ok.at _ _ _ _ Tryz.func81 tie81 X81) (ST.Ok.at _ _ _ _ Tryz.func82 tie82 X82)))))) (ST.Ok.node _ _ _ (ST.Ok.node _ _ _ (ST.Ok.node _ _ _ (ST.Ok.node _ _ _ (ST.Ok.at _ _ _ _ Tryz.func83 tie83 X83) (ST.Ok.at _ _ _ _ Tryz.func84 tie84 X84)) (ST.Ok.node _ _ _ (ST.Ok.at _ _ _ _ Tryz.func85 tie85 X85) (ST.Ok.node _ _ _ (ST.Ok.at _ _ _ _ Tryz.func86 tie86 X86) (ST.Ok.at _ _ _ _ Tryz.func87 tie87 X87)))) (ST.Ok.node _ _ _ (ST.Ok.node _ _ _ (ST.Ok.at _ _ _ _ Tryz.func88 tie88 X88) (ST.Ok.at _ _ _ _ Tryz.func89 tie89 X89)) (ST.Ok.node _ _ _ (ST.Ok.at _ _ _ _ Tryz.func90 tie90 X90) (ST.Ok.node _ _ _ (ST.Ok.at _ _ _ _ Tryz.func91 tie91 X91) (ST.Ok.at _ _ _ _ Tryz.func102 tie102 X102))))) (ST.Ok.node _ _ _ (ST.Ok.node _ _ _ (ST.Ok.node _ _ _ (ST.Ok.at _ _ _ _ Tryz.func105 tie105 X105) (ST.Ok.at _ _ _ _ Tryz.func106 tie106 X106)) (ST.Ok.node _ _ _ (ST.Ok.at _ _ _ _ Tryz.func107 tie107 X107) (ST.Ok.node _ _ _ (ST.Ok.at _ _ _ _ Tryz.func108 tie108 X108) (ST.Ok.at _ _ _ _ Tryz.func109 tie109 X109)))) (ST.Ok.node _ _ _ (ST.Ok.node _ _ _ (ST.Ok.at _ _ _ _ Tryz.func110 tie110 X110) (ST.Ok.node _ _ _ (ST.Ok.at _ _ _ _ Tryz.func112 tie112 X112) (ST.Ok.at _ _ _ _ Tryz.func113 tie113 X113))) (ST.Ok.node _ _ _ (ST.Ok.at _ _ _ _ Tryz.func114 tie114 X114) (ST.Ok.node _ _ _ (ST.Ok.at _ _ _ _ Tryz.func115 tie115 X115) (ST.Ok.at _ _ _ _ Tryz.func116 tie116 X116)))))))
end Go.Proofs.YtblciblkocameaaGreat.Sx
