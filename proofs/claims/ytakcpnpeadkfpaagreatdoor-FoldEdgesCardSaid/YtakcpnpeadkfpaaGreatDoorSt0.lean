/- The printed code is what the translation makes of the loaded program. -/
import Derived.Test.YtakcpnpeadkfpaaGreatDoorSx0
import Derived.Test.YtakcpnpeadkfpaaGreatDoorRows
set_option linter.unusedSectionVars false
namespace Go.Proofs.YtakcpnpeadkfpaaGreatDoor.Sx
open Go Go.Proofs.YtakcpnpeadkfpaaGreatDoor.Ev
variable [Rho]
theorem tie5 : trFn Tryz.prog Tryz.f5 = some x5.fn := by kernel_rfl
theorem tie6 : trFn Tryz.prog Tryz.f6 = some x6.fn := by kernel_rfl
theorem tie7 : trFn Tryz.prog Tryz.f7 = some x7.fn := by kernel_rfl
theorem tie9 : trFn Tryz.prog Tryz.f9 = some x9.fn := by kernel_rfl
theorem tie11 : trFn Tryz.prog Tryz.f11 = some x11.fn := by kernel_rfl
theorem tie12 : trFn Tryz.prog Tryz.f12 = some x12.fn := by kernel_rfl
theorem tie13 : trFn Tryz.prog Tryz.f13 = some x13.fn := by kernel_rfl
theorem tie14 : trFn Tryz.prog Tryz.f14 = some x14.fn := by kernel_rfl
theorem tie15 : trFn Tryz.prog Tryz.f15 = some x15.fn := by kernel_rfl
theorem tie16 : trFn Tryz.prog Tryz.f16 = some x16.fn := by kernel_rfl
theorem tie17 : trFn Tryz.prog Tryz.f17 = some x17.fn := by kernel_rfl
theorem tie20 : trFn Tryz.prog Tryz.f20 = some x20.fn := by kernel_rfl
theorem tie21 : trFn Tryz.prog Tryz.f21 = some x21.fn := by kernel_rfl
theorem tie25 : trFn Tryz.prog Tryz.f25 = some x25.fn := by kernel_rfl
theorem tie26 : trFn Tryz.prog Tryz.f26 = some x26.fn := by kernel_rfl
theorem tie27 : trFn Tryz.prog Tryz.f27 = some x27.fn := by kernel_rfl
theorem tie28 : trFn Tryz.prog Tryz.f28 = some x28.fn := by kernel_rfl
theorem tie29 : trFn Tryz.prog Tryz.f29 = some x29.fn := by kernel_rfl
theorem tie30 : trFn Tryz.prog Tryz.f30 = some x30.fn := by kernel_rfl
theorem tie31 : trFn Tryz.prog Tryz.f31 = some x31.fn := by kernel_rfl
theorem tie32 : trFn Tryz.prog Tryz.f32 = some x32.fn := by kernel_rfl
theorem tie33 : trFn Tryz.prog Tryz.f33 = some x33.fn := by kernel_rfl
theorem tie34 : trFn Tryz.prog Tryz.f34 = some x34.fn := by kernel_rfl
theorem tie35 : trFn Tryz.prog Tryz.f35 = some x35.fn := by kernel_rfl
theorem tie36 : trFn Tryz.prog Tryz.f36 = some x36.fn := by kernel_rfl
theorem tie40 : trFn Tryz.prog Tryz.f40 = some x40.fn := by kernel_rfl
theorem tie44 : trFn Tryz.prog Tryz.f44 = some x44.fn := by kernel_rfl
theorem tie45 : trFn Tryz.prog Tryz.f45 = some x45.fn := by kernel_rfl
theorem tie48 : trFn Tryz.prog Tryz.f48 = some x48.fn := by kernel_rfl
theorem tie49 : trFn Tryz.prog Tryz.f49 = some x49.fn := by kernel_rfl
theorem tie50 : trFn Tryz.prog Tryz.f50 = some x50.fn := by kernel_rfl
theorem tie51 : trFn Tryz.prog Tryz.f51 = some x51.fn := by kernel_rfl
theorem tie52 : trFn Tryz.prog Tryz.f52 = some x52.fn := by kernel_rfl
theorem tie53 : trFn Tryz.prog Tryz.f53 = some x53.fn := by kernel_rfl
theorem tie54 : trFn Tryz.prog Tryz.f54 = some x54.fn := by kernel_rfl
theorem tie55 : trFn Tryz.prog Tryz.f55 = some x55.fn := by kernel_rfl
theorem tie58 : trFn Tryz.prog Tryz.f58 = some x58.fn := by kernel_rfl
theorem tie59 : trFn Tryz.prog Tryz.f59 = some x59.fn := by kernel_rfl
theorem tie68 : trFn Tryz.prog Tryz.f68 = some x68.fn := by kernel_rfl
theorem tie69 : trFn Tryz.prog Tryz.f69 = some x69.fn := by kernel_rfl
theorem tie70 : trFn Tryz.prog Tryz.f70 = some x70.fn := by kernel_rfl
theorem tie71 : trFn Tryz.prog Tryz.f71 = some x71.fn := by kernel_rfl
theorem tie72 : trFn Tryz.prog Tryz.f72 = some x72.fn := by kernel_rfl
theorem tie73 : trFn Tryz.prog Tryz.f73 = some x73.fn := by kernel_rfl
noncomputable def tr0 : ST := (ST.node 33 (ST.node 17 (ST.node 11 (ST.node 6 (ST.node 5 (ST.at 5 x5 S5) (ST.at 6 x6 S6)) (ST.node 7 (ST.at 7 x7 S7) (ST.node 9 (ST.at 9 x9 S9) (ST.at 11 x11 S11)))) (ST.node 14 (ST.node 12 (ST.at 12 x12 S12) (ST.node 13 (ST.at 13 x13 S13) (ST.at 14 x14 S14))) (ST.node 15 (ST.at 15 x15 S15) (ST.node 16 (ST.at 16 x16 S16) (ST.at 17 x17 S17))))) (ST.node 27 (ST.node 21 (ST.node 20 (ST.at 20 x20 S20) (ST.at 21 x21 S21)) (ST.node 25 (ST.at 25 x25 S25) (ST.node 26 (ST.at 26 x26 S26) (ST.at 27 x27 S27)))) (ST.node 30 (ST.node 28 (ST.at 28 x28 S28) (ST.node 29 (ST.at 29 x29 S29) (ST.at 30 x30 S30))) (ST.node 31 (ST.at 31 x31 S31) (ST.node 32 (ST.at 32 x32 S32) (ST.at 33 x33 S33)))))) (ST.node 52 (ST.node 44 (ST.node 35 (ST.node 34 (ST.at 34 x34 S34) (ST.at 35 x35 S35)) (ST.node 36 (ST.at 36 x36 S36) (ST.node 40 (ST.at 40 x40 S40) (ST.at 44 x44 S44)))) (ST.node 49 (ST.node 45 (ST.at 45 x45 S45) (ST.node 48 (ST.at 48 x48 S48) (ST.at 49 x49 S49))) (ST.node 50 (ST.at 50 x50 S50) (ST.node 51 (ST.at 51 x51 S51) (ST.at 52 x52 S52))))) (ST.node 59 (ST.node 54 (ST.node 53 (ST.at 53 x53 S53) (ST.at 54 x54 S54)) (ST.node 55 (ST.at 55 x55 S55) (ST.node 58 (ST.at 58 x58 S58) (ST.at 59 x59 S59)))) (ST.node 70 (ST.node 68 (ST.at 68 x68 S68) (ST.node 69 (ST.at 69 x69 S69) (ST.at 70 x70 S70))) (ST.node 71 (ST.at 71 x71 S71) (ST.node 72 (ST.at 72 x72 S72) (ST.at 73 x73 S73)))))))
theorem ok0 : ST.Ok Tryz.prog tr0 := (ST.Ok.node _ _ _ (ST.Ok.node _ _ _ (ST.Ok.node _ _ _ (ST.Ok.node _ _ _ (ST.Ok.node _ _ _ (ST.Ok.at _ _ _ _ Tryz.func5 tie5 X5) (ST.Ok.at _ _ _ _ Tryz.func6 tie6 X6)) (ST.Ok.node _ _ _ (ST.Ok.at _ _ _ _ Tryz.func7 tie7 X7) (ST.Ok.node _ _ _ (ST.Ok.at _ _ _ _ Tryz.func9 tie9 X9) (ST.Ok.at _ _ _ _ Tryz.func11 tie11 X11)))) (ST.Ok.node _ _ _ (ST.Ok.node _ _ _ (ST.Ok.at _ _ _ _ Tryz.func12 tie12 X12) (ST.Ok.node _ _ _ (ST.Ok.at _ _ _ _ Tryz.func13 tie13 X13) (ST.Ok.at _ _ _ _ Tryz.func14 tie14 X14))) (ST.Ok.node _ _ _ (ST.Ok.at _ _ _ _ Tryz.func15 tie15 X15) (ST.Ok.node _ _ _ (ST.Ok.at _ _ _ _ Tryz.func16 tie16 X16) (ST.Ok.at _ _ _ _ Tryz.func17 tie17 X17))))) (ST.Ok.node _ _ _ (ST.Ok.node _ _ _ (ST.Ok.node _ _ _ (ST.Ok.at _ _ _ _ Tryz.func20 tie20 X20) (ST.Ok.at _ _ _ _ Tryz.func21 tie21 X21)) (ST.Ok.node _ _ _ (ST.Ok.at _ _ _ _ Tryz.func25 tie25 X25) (ST.Ok.node _ _ _ (ST.Ok.at _ _ _ _ Tryz.func26 tie26 X26) (ST.Ok.at _ _ _ _ Tryz.func27 tie27 X27)))) (ST.Ok.node _ _ _ (ST.Ok.node _ _ _ (ST.Ok.at _ _ _ _ Tryz.func28 tie28 X28) (ST.Ok.node _ _ _ (ST.Ok.at _ _ _ _ Tryz.func29 tie29 X29) (ST.Ok.at _ _ _ _ Tryz.func30 tie30 X30))) (ST.Ok.node _ _ _ (ST.Ok.at _ _ _ _ Tryz.func31 tie31 X31) (ST.Ok.node _ _ _ (ST.Ok.at _ _ _ _ Tryz.func32 tie32 X32) (ST.Ok.at _ _ _ _ Tryz.func33 tie33 X33)))))) (ST.Ok.node _ _ _ (ST.Ok.node _ _ _ (ST.Ok.node _ _ _ (ST.Ok.node _ _ _ (ST.Ok.at _ _ _ _ Tryz.func34 tie34 X34) (ST.Ok.at _ _ _ _ Tryz.func35 tie35 X35)) (ST.Ok.node _ _ _ (ST.Ok.at _ _ _ _ Tryz.func36 tie36 X36) (ST.Ok.node _ _ _ (ST.Ok.at _ _ _ _ Tryz.func40 tie40 X40) (ST.Ok.at _ _ _ _ Tryz.func44 tie44 X44)))) (ST.Ok.node _ _ _ (ST.Ok.node _ _ _ (ST.Ok.at _ _ _ _ Tryz.func45 tie45 X45) (ST.Ok.node _ _ _ (ST.Ok.at _ _ _ _ Tryz.func48 tie48 X48) (ST.Ok.at _ _ _ _ Tryz.func49 tie49 X49))) (ST.Ok.node _ _ _ (ST.Ok.at _ _ _ _ Tryz.func50 tie50 X50) (ST.Ok.node _ _ _ (ST.Ok.at _ _ _ _ Tryz.func51 tie51 X51) (ST.Ok.at _ _ _ _ Tryz.func52 tie52 X52))))) (ST.Ok.node _ _ _ (ST.Ok.node _ _ _ (ST.Ok.node _ _ _ (ST.Ok.at _ _ _ _ Tryz.func53 tie53 X53) (ST.Ok.at _ _ _ _ Tryz.func54 tie54 X54)) (ST.Ok.node _ _ _ (ST.Ok.at _ _ _ _ Tryz.func55 tie55 X55) (ST.Ok.node _ _ _ (ST.Ok.at _ _ _ _ Tryz.func58 tie58 X58) (ST.Ok.at _ _ _ _ Tryz.func59 tie59 X59)))) (ST.Ok.node _ _ _ (ST.Ok.node _ _ _ (ST.Ok.at _ _ _ _ Tryz.func68 tie68 X68) (ST.Ok.node _ _ _ (ST.Ok.at _ _ _ _ Tryz.func69 tie69 X69) (ST.Ok.at _ _ _ _ Tryz.func70 tie70 X70))) (ST.Ok.node _ _ _ (ST.Ok.at _ _ _ _ Tryz.func71 tie71 X71) (ST.Ok.node _ _ _ (ST.Ok.at _ _ _ _ Tryz.func72 tie72 X72) (ST.Ok.at _ _ _ _ Tryz.func73 tie73 X73)))))))
end Go.Proofs.YtakcpnpeadkfpaaGreatDoor.Sx
