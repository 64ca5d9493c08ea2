/- The printed code is what the translation makes of the loaded program. -/
import Derived.Test.YtdeeainihfnbdaaGreatDoorSx1
import Derived.Test.YtdeeainihfnbdaaGreatDoorRows
set_option linter.unusedSectionVars false
namespace Go.Proofs.YtdeeainihfnbdaaGreatDoor.Sx
open Go Go.Proofs.YtdeeainihfnbdaaGreatDoor.Ev
variable [Rho]
theorem tie59 : trFn Tryz.prog Tryz.f59 = some x59.fn := by kernel_rfl
theorem tie60 : trFn Tryz.prog Tryz.f60 = some x60.fn := by kernel_rfl
theorem tie61 : trFn Tryz.prog Tryz.f61 = some x61.fn := by kernel_rfl
theorem tie62 : trFn Tryz.prog Tryz.f62 = some x62.fn := by kernel_rfl
theorem tie63 : trFn Tryz.prog Tryz.f63 = some x63.fn := by kernel_rfl
theorem tie64 : trFn Tryz.prog Tryz.f64 = some x64.fn := by kernel_rfl
theorem tie66 : trFn Tryz.prog Tryz.f66 = some x66.fn := by kernel_rfl
theorem tie67 : trFn Tryz.prog Tryz.f67 = some x67.fn := by kernel_rfl
theorem tie68 : trFn Tryz.prog Tryz.f68 = some x68.fn := by kernel_rfl
theorem tie70 : trFn Tryz.prog Tryz.f70 = some x70.fn := by kernel_rfl
theorem tie71 : trFn Tryz.prog Tryz.f71 = some x71.fn := by kernel_rfl
theorem tie72 : trFn Tryz.prog Tryz.f72 = some x72.fn := by kernel_rfl
theorem tie73 : trFn Tryz.prog Tryz.f73 = some x73.fn := by kernel_rfl
theorem tie74 : trFn Tryz.prog Tryz.f74 = some x74.fn := by kernel_rfl
theorem tie75 : trFn Tryz.prog Tryz.f75 = some x75.fn := by kernel_rfl
theorem tie78 : trFn Tryz.prog Tryz.f78 = some x78.fn := by kernel_rfl
theorem tie91 : trFn Tryz.prog Tryz.f91 = some x91.fn := by kernel_rfl
theorem tie92 : trFn Tryz.prog Tryz.f92 = some x92.fn := by kernel_rfl
theorem tie93 : trFn Tryz.prog Tryz.f93 = some x93.fn := by kernel_rfl
theorem tie94 : trFn Tryz.prog Tryz.f94 = some x94.fn := by kernel_rfl
theorem tie95 : trFn Tryz.prog Tryz.f95 = some x95.fn := by kernel_rfl
theorem tie97 : trFn Tryz.prog Tryz.f97 = some x97.fn := by kernel_rfl
theorem tie98 : trFn Tryz.prog Tryz.f98 = some x98.fn := by kernel_rfl
theorem tie99 : trFn Tryz.prog Tryz.f99 = some x99.fn := by kernel_rfl
theorem tie100 : trFn Tryz.prog Tryz.f100 = some x100.fn := by kernel_rfl
theorem tie101 : trFn Tryz.prog Tryz.f101 = some x101.fn := by kernel_rfl
theorem tie103 : trFn Tryz.prog Tryz.f103 = some x103.fn := by kernel_rfl
theorem tie104 : trFn Tryz.prog Tryz.f104 = some x104.fn := by kernel_rfl
theorem tie105 : trFn Tryz.prog Tryz.f105 = some x105.fn := by kernel_rfl
theorem tie106 : trFn Tryz.prog Tryz.f106 = some x106.fn := by kernel_rfl
theorem tie107 : trFn Tryz.prog Tryz.f107 = some x107.fn := by kernel_rfl
theorem tie109 : trFn Tryz.prog Tryz.f109 = some x109.fn := by kernel_rfl
theorem tie116 : trFn Tryz.prog Tryz.f116 = some x116.fn := by kernel_rfl
theorem tie118 : trFn Tryz.prog Tryz.f118 = some x118.fn := by kernel_rfl
theorem tie119 : trFn Tryz.prog Tryz.f119 = some x119.fn := by kernel_rfl
theorem tie120 : trFn Tryz.prog Tryz.f120 = some x120.fn := by kernel_rfl
theorem tie122 : trFn Tryz.prog Tryz.f122 = some x122.fn := by kernel_rfl
theorem tie123 : trFn Tryz.prog Tryz.f123 = some x123.fn := by kernel_rfl
theorem tie124 : trFn Tryz.prog Tryz.f124 = some x124.fn := by kernel_rfl
theorem tie130 : trFn Tryz.prog Tryz.f130 = some x130.fn := by kernel_rfl
noncomputable def tr1 : ST := (ST.node 94 (ST.node 70 (ST.node 63 (ST.node 60 (ST.node 59 (ST.at 59 x59 S59) (ST.at 60 x60 S60)) (ST.node 61 (ST.at 61 x61 S61) (ST.node 62 (ST.at 62 x62 S62) (ST.at 63 x63 S63)))) (ST.node 66 (ST.node 64 (ST.at 64 x64 S64) (ST.at 66 x66 S66)) (ST.node 67 (ST.at 67 x67 S67) (ST.node 68 (ST.at 68 x68 S68) (ST.at 70 x70 S70))))) (ST.node 75 (ST.node 72 (ST.node 71 (ST.at 71 x71 S71) (ST.at 72 x72 S72)) (ST.node 73 (ST.at 73 x73 S73) (ST.node 74 (ST.at 74 x74 S74) (ST.at 75 x75 S75)))) (ST.node 91 (ST.node 78 (ST.at 78 x78 S78) (ST.at 91 x91 S91)) (ST.node 92 (ST.at 92 x92 S92) (ST.node 93 (ST.at 93 x93 S93) (ST.at 94 x94 S94)))))) (ST.node 106 (ST.node 100 (ST.node 97 (ST.node 95 (ST.at 95 x95 S95) (ST.at 97 x97 S97)) (ST.node 98 (ST.at 98 x98 S98) (ST.node 99 (ST.at 99 x99 S99) (ST.at 100 x100 S100)))) (ST.node 103 (ST.node 101 (ST.at 101 x101 S101) (ST.at 103 x103 S103)) (ST.node 104 (ST.at 104 x104 S104) (ST.node 105 (ST.at 105 x105 S105) (ST.at 106 x106 S106))))) (ST.node 119 (ST.node 109 (ST.node 107 (ST.at 107 x107 S107) (ST.at 109 x109 S109)) (ST.node 116 (ST.at 116 x116 S116) (ST.node 118 (ST.at 118 x118 S118) (ST.at 119 x119 S119)))) (ST.node 122 (ST.node 120 (ST.at 120 x120 S120) (ST.at 122 x122 S122)) (ST.node 123 (ST.at 123 x123 S123) (ST.node 124 (ST.at 124 x124 S124) (ST.at 130 x130 S130)))))))
theorem ok1 : ST.Ok Tryz.prog tr1 := (ST.Ok.node _ _ _ (ST.Ok.node _ _ _ (ST.Ok.node _ _ _ (ST.Ok.node _ _ _ (ST.Ok.node _ _ _ (ST.Ok.at _ _ _ _ Tryz.func59 tie59 X59) (ST.Ok.at _ _ _ _ Tryz.func60 tie60 X60)) (ST.Ok.node _ _ _ (ST.Ok.at _ _ _ _ Tryz.func61 tie61 X61) (ST.Ok.node _ _ _ (ST.Ok.at _ _ _ _ Tryz.func62 tie62 X62) (ST.Ok.at _ _ _ _ Tryz.func63 tie63 X63)))) (ST.Ok.node _ _ _ (ST.Ok.node _ _ _ (ST.Ok.at _ _ _ _ Tryz.func64 tie64 X64) (ST.Ok.at _ _ _ _ Tryz.func66 tie66 X66)) (ST.Ok.node _ _ _ (ST.Ok.at _ _ _ _ Tryz.func67 tie67 X67) (ST.Ok.node _ _ _ (ST.Ok.at _ _ _ _ Tryz.func68 tie68 X68) (ST.Ok.at _ _ _ _ Tryz.func70 tie70 X70))))) (ST.Ok.node _ _ _ (ST.Ok.node _ _ _ (ST.Ok.node _ _ _ (ST.Ok.at _ _ _ _ Tryz.func71 tie71 X71) (ST.Ok.at _ _ _ _ Tryz.func72 tie72 X72)) (ST.Ok.node _ _ _ (ST.Ok.at _ _ _ _ Tryz.func73 tie73 X73) (ST.Ok.node _ _ _ (ST.Ok.at _ _ _ _ Tryz.func74 tie74 X74) (ST.Ok.at _ _ _ _ Tryz.func75 tie75 X75)))) (ST.Ok.node _ _ _ (ST.Ok.node _ _ _ (ST.Ok.at _ _ _ _ Tryz.func78 tie78 X78) (ST.Ok.at _ _ _ _ Tryz.func91 tie91 X91)) (ST.Ok.node _ _ _ (ST.Ok.at _ _ _ _ Tryz.func92 tie92 X92) (ST.Ok.node _ _ _ (ST.Ok.at _ _ _ _ Tryz.func93 tie93 X93) (ST.Ok.at _ _ _ _ Tryz.func94 tie94 X94)))))) (ST.Ok.node _ _ _ (ST.Ok.node _ _ _ (ST.Ok.node _ _ _ (ST.Ok.node _ _ _ (ST.Ok.at _ _ _ _ Tryz.func95 tie95 X95) (ST.Ok.at _ _ _ _ Tryz.func97 tie97 X97)) (ST.Ok.node _ _ _ (ST.Ok.at _ _ _ _ Tryz.func98 tie98 X98) (ST.Ok.node _ _ _ (ST.Ok.at _ _ _ _ Tryz.func99 tie99 X99) (ST.Ok.at _ _ _ _ Tryz.func100 tie100 X100)))) (ST.Ok.node _ _ _ (ST.Ok.node _ _ _ (ST.Ok.at _ _ _ _ Tryz.func101 tie101 X101) (ST.Ok.at _ _ _ _ Tryz.func103 tie103 X103)) (ST.Ok.node _ _ _ (ST.Ok.at _ _ _ _ Tryz.func104 tie104 X104) (ST.Ok.node _ _ _ (ST.Ok.at _ _ _ _ Tryz.func105 tie105 X105) (ST.Ok.at _ _ _ _ Tryz.func106 tie106 X106))))) (ST.Ok.node _ _ _ (ST.Ok.node _ _ _ (ST.Ok.node _ _ _ (ST.Ok.at _ _ _ _ Tryz.func107 tie107 X107) (ST.Ok.at _ _ _ _ Tryz.func109 tie109 X109)) (ST.Ok.node _ _ _ (ST.Ok.at _ _ _ _ Tryz.func116 tie116 X116) (ST.Ok.node _ _ _ (ST.Ok.at _ _ _ _ Tryz.func118 tie118 X118) (ST.Ok.at _ _ _ _ Tryz.func119 tie119 X119)))) (ST.Ok.node _ _ _ (ST.Ok.node _ _ _ (ST.Ok.at _ _ _ _ Tryz.func120 tie120 X120) (ST.Ok.at _ _ _ _ Tryz.func122 tie122 X122)) (ST.Ok.node _ _ _ (ST.Ok.at _ _ _ _ Tryz.func123 tie123 X123) (ST.Ok.node _ _ _ (ST.Ok.at _ _ _ _ Tryz.func124 tie124 X124) (ST.Ok.at _ _ _ _ Tryz.func130 tie130 X130)))))))
end Go.Proofs.YtdeeainihfnbdaaGreatDoor.Sx
