/- The printed code is what the translation makes of the loaded program. -/
import Derived.Test.YtbfdhoggchedjaaGreatDoorSx0
import Derived.Test.YtbfdhoggchedjaaGreatDoorRows
set_option linter.unusedSectionVars false
namespace Go.Proofs.YtbfdhoggchedjaaGreatDoor.Sx
open Go Go.Proofs.YtbfdhoggchedjaaGreatDoor.Ev
variable [Rho]
theorem tie4 : trFn Tryz.prog Tryz.f4 = some x4.fn := by kernel_rfl
theorem tie5 : trFn Tryz.prog Tryz.f5 = some x5.fn := by kernel_rfl
theorem tie6 : trFn Tryz.prog Tryz.f6 = some x6.fn := by kernel_rfl
theorem tie10 : trFn Tryz.prog Tryz.f10 = some x10.fn := by kernel_rfl
theorem tie11 : trFn Tryz.prog Tryz.f11 = some x11.fn := by kernel_rfl
theorem tie13 : trFn Tryz.prog Tryz.f13 = some x13.fn := by kernel_rfl
theorem tie15 : trFn Tryz.prog Tryz.f15 = some x15.fn := by kernel_rfl
theorem tie16 : trFn Tryz.prog Tryz.f16 = some x16.fn := by kernel_rfl
theorem tie17 : trFn Tryz.prog Tryz.f17 = some x17.fn := by kernel_rfl
theorem tie18 : trFn Tryz.prog Tryz.f18 = some x18.fn := by kernel_rfl
theorem tie19 : trFn Tryz.prog Tryz.f19 = some x19.fn := by kernel_rfl
theorem tie22 : trFn Tryz.prog Tryz.f22 = some x22.fn := by kernel_rfl
theorem tie27 : trFn Tryz.prog Tryz.f27 = some x27.fn := by kernel_rfl
theorem tie31 : trFn Tryz.prog Tryz.f31 = some x31.fn := by kernel_rfl
theorem tie32 : trFn Tryz.prog Tryz.f32 = some x32.fn := by kernel_rfl
theorem tie42 : trFn Tryz.prog Tryz.f42 = some x42.fn := by kernel_rfl
theorem tie43 : trFn Tryz.prog Tryz.f43 = some x43.fn := by kernel_rfl
theorem tie44 : trFn Tryz.prog Tryz.f44 = some x44.fn := by kernel_rfl
theorem tie45 : trFn Tryz.prog Tryz.f45 = some x45.fn := by kernel_rfl
theorem tie51 : trFn Tryz.prog Tryz.f51 = some x51.fn := by kernel_rfl
theorem tie52 : trFn Tryz.prog Tryz.f52 = some x52.fn := by kernel_rfl
theorem tie53 : trFn Tryz.prog Tryz.f53 = some x53.fn := by kernel_rfl
theorem tie74 : trFn Tryz.prog Tryz.f74 = some x74.fn := by kernel_rfl
theorem tie75 : trFn Tryz.prog Tryz.f75 = some x75.fn := by kernel_rfl
theorem tie76 : trFn Tryz.prog Tryz.f76 = some x76.fn := by kernel_rfl
theorem tie90 : trFn Tryz.prog Tryz.f90 = some x90.fn := by kernel_rfl
theorem tie94 : trFn Tryz.prog Tryz.f94 = some x94.fn := by kernel_rfl
theorem tie95 : trFn Tryz.prog Tryz.f95 = some x95.fn := by kernel_rfl
theorem tie97 : trFn Tryz.prog Tryz.f97 = some x97.fn := by kernel_rfl
theorem tie102 : trFn Tryz.prog Tryz.f102 = some x102.fn := by kernel_rfl
theorem tie111 : trFn Tryz.prog Tryz.f111 = some x111.fn := by kernel_rfl
theorem tie115 : trFn Tryz.prog Tryz.f115 = some x115.fn := by kernel_rfl
theorem tie123 : trFn Tryz.prog Tryz.f123 = some x123.fn := by kernel_rfl
theorem tie124 : trFn Tryz.prog Tryz.f124 = some x124.fn := by kernel_rfl
theorem tie132 : trFn Tryz.prog Tryz.f132 = some x132.fn := by kernel_rfl
theorem tie134 : trFn Tryz.prog Tryz.f134 = some x134.fn := by kernel_rfl
noncomputable def tr0 : ST := (ST.node 44 (ST.node 17 (ST.node 10 (ST.node 5 (ST.node 4 (ST.at 4 x4 S4) (ST.at 5 x5 S5)) (ST.node 6 (ST.at 6 x6 S6) (ST.at 10 x10 S10))) (ST.node 13 (ST.node 11 (ST.at 11 x11 S11) (ST.at 13 x13 S13)) (ST.node 15 (ST.at 15 x15 S15) (ST.node 16 (ST.at 16 x16 S16) (ST.at 17 x17 S17))))) (ST.node 27 (ST.node 19 (ST.node 18 (ST.at 18 x18 S18) (ST.at 19 x19 S19)) (ST.node 22 (ST.at 22 x22 S22) (ST.at 27 x27 S27))) (ST.node 32 (ST.node 31 (ST.at 31 x31 S31) (ST.at 32 x32 S32)) (ST.node 42 (ST.at 42 x42 S42) (ST.node 43 (ST.at 43 x43 S43) (ST.at 44 x44 S44)))))) (ST.node 94 (ST.node 53 (ST.node 51 (ST.node 45 (ST.at 45 x45 S45) (ST.at 51 x51 S51)) (ST.node 52 (ST.at 52 x52 S52) (ST.at 53 x53 S53))) (ST.node 75 (ST.node 74 (ST.at 74 x74 S74) (ST.at 75 x75 S75)) (ST.node 76 (ST.at 76 x76 S76) (ST.node 90 (ST.at 90 x90 S90) (ST.at 94 x94 S94))))) (ST.node 111 (ST.node 97 (ST.node 95 (ST.at 95 x95 S95) (ST.at 97 x97 S97)) (ST.node 102 (ST.at 102 x102 S102) (ST.at 111 x111 S111))) (ST.node 123 (ST.node 115 (ST.at 115 x115 S115) (ST.at 123 x123 S123)) (ST.node 124 (ST.at 124 x124 S124) (ST.node 132 (ST.at 132 x132 S132) (ST.at 134 x134 S134)))))))
theorem ok0 : ST.Ok Tryz.prog tr0 := (ST.Ok.node _ _ _ (ST.Ok.node _ _ _ (ST.Ok.node _ _ _ (ST.Ok.node _ _ _ (ST.Ok.node _ _ _ (ST.Ok.at _ _ _ _ Tryz.func4 tie4 X4) (ST.Ok.at _ _ _ _ Tryz.func5 tie5 X5)) (ST.Ok.node _ _ _ (ST.Ok.at _ _ _ _ Tryz.func6 tie6 X6) (ST.Ok.at _ _ _ _ Tryz.func10 tie10 X10))) (ST.Ok.node _ _ _ (ST.Ok.node _ _ _ (ST.Ok.at _ _ _ _ Tryz.func11 tie11 X11) (ST.Ok.at _ _ _ _ Tryz.func13 tie13 X13)) (ST.Ok.node _ _ _ (ST.Ok.at _ _ _ _ Tryz.func15 tie15 X15) (ST.Ok.node _ _ _ (ST.Ok.at _ _ _ _ Tryz.func16 tie16 X16) (ST.Ok.at _ _ _ _ Tryz.func17 tie17 X17))))) (ST.Ok.node _ _ _ (ST.Ok.node _ _ _ (ST.Ok.node _ _ _ (ST.Ok.at _ _ _ _ Tryz.func18 tie18 X18) (ST.Ok.at _ _ _ _ Tryz.func19 tie19 X19)) (ST.Ok.node _ _ _ (ST.Ok.at _ _ _ _ Tryz.func22 tie22 X22) (ST.Ok.at _ _ _ _ Tryz.func27 tie27 X27))) (ST.Ok.node _ _ _ (ST.Ok.node _ _ _ (ST.Ok.at _ _ _ _ Tryz.func31 tie31 X31) (ST.Ok.at _ _ _ _ Tryz.func32 tie32 X32)) (ST.Ok.node _ _ _ (ST.Ok.at _ _ _ _ Tryz.func42 tie42 X42) (ST.Ok.node _ _ _ (ST.Ok.at _ _ _ _ Tryz.func43 tie43 X43) (ST.Ok.at _ _ _ _ Tryz.func44 tie44 X44)))))) (ST.Ok.node _ _ _ (ST.Ok.node _ _ _ (ST.Ok.node _ _ _ (ST.Ok.node _ _ _ (ST.Ok.at _ _ _ _ Tryz.func45 tie45 X45) (ST.Ok.at _ _ _ _ Tryz.func51 tie51 X51)) (ST.Ok.node _ _ _ (ST.Ok.at _ _ _ _ Tryz.func52 tie52 X52) (ST.Ok.at _ _ _ _ Tryz.func53 tie53 X53))) (ST.Ok.node _ _ _ (ST.Ok.node _ _ _ (ST.Ok.at _ _ _ _ Tryz.func74 tie74 X74) (ST.Ok.at _ _ _ _ Tryz.func75 tie75 X75)) (ST.Ok.node _ _ _ (ST.Ok.at _ _ _ _ Tryz.func76 tie76 X76) (ST.Ok.node _ _ _ (ST.Ok.at _ _ _ _ Tryz.func90 tie90 X90) (ST.Ok.at _ _ _ _ Tryz.func94 tie94 X94))))) (ST.Ok.node _ _ _ (ST.Ok.node _ _ _ (ST.Ok.node _ _ _ (ST.Ok.at _ _ _ _ Tryz.func95 tie95 X95) (ST.Ok.at _ _ _ _ Tryz.func97 tie97 X97)) (ST.Ok.node _ _ _ (ST.Ok.at _ _ _ _ Tryz.func102 tie102 X102) (ST.Ok.at _ _ _ _ Tryz.func111 tie111 X111))) (ST.Ok.node _ _ _ (ST.Ok.node _ _ _ (ST.Ok.at _ _ _ _ Tryz.func115 tie115 X115) (ST.Ok.at _ _ _ _ Tryz.func123 tie123 X123)) (ST.Ok.node _ _ _ (ST.Ok.at _ _ _ _ Tryz.func124 tie124 X124) (ST.Ok.node _ _ _ (ST.Ok.at _ _ _ _ Tryz.func132 tie132 X132) (ST.Ok.at _ _ _ _ Tryz.func134 tie134 X134)))))))
end Go.Proofs.YtbfdhoggchedjaaGreatDoor.Sx
