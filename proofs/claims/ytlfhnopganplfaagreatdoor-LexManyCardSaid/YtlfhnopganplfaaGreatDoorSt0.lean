/- The printed code is what the translation makes of the loaded program. -/
import Derived.Test.YtlfhnopganplfaaGreatDoorSx0
import Derived.Test.YtlfhnopganplfaaGreatDoorRows
set_option linter.unusedSectionVars false
namespace Go.Proofs.YtlfhnopganplfaaGreatDoor.Sx
open Go Go.Proofs.YtlfhnopganplfaaGreatDoor.Ev
variable [Rho]
theorem tie3 : trFn Tryz.prog Tryz.f3 = some x3.fn := by kernel_rfl
theorem tie4 : trFn Tryz.prog Tryz.f4 = some x4.fn := by kernel_rfl
theorem tie5 : trFn Tryz.prog Tryz.f5 = some x5.fn := by kernel_rfl
theorem tie6 : trFn Tryz.prog Tryz.f6 = some x6.fn := by kernel_rfl
theorem tie7 : trFn Tryz.prog Tryz.f7 = some x7.fn := by kernel_rfl
theorem tie8 : trFn Tryz.prog Tryz.f8 = some x8.fn := by kernel_rfl
theorem tie9 : trFn Tryz.prog Tryz.f9 = some x9.fn := by kernel_rfl
theorem tie10 : trFn Tryz.prog Tryz.f10 = some x10.fn := by kernel_rfl
theorem tie11 : trFn Tryz.prog Tryz.f11 = some x11.fn := by kernel_rfl
theorem tie12 : trFn Tryz.prog Tryz.f12 = some x12.fn := by kernel_rfl
theorem tie13 : trFn Tryz.prog Tryz.f13 = some x13.fn := by kernel_rfl
theorem tie14 : trFn Tryz.prog Tryz.f14 = some x14.fn := by kernel_rfl
theorem tie17 : trFn Tryz.prog Tryz.f17 = some x17.fn := by kernel_rfl
theorem tie18 : trFn Tryz.prog Tryz.f18 = some x18.fn := by kernel_rfl
theorem tie19 : trFn Tryz.prog Tryz.f19 = some x19.fn := by kernel_rfl
theorem tie20 : trFn Tryz.prog Tryz.f20 = some x20.fn := by kernel_rfl
theorem tie21 : trFn Tryz.prog Tryz.f21 = some x21.fn := by kernel_rfl
theorem tie22 : trFn Tryz.prog Tryz.f22 = some x22.fn := by kernel_rfl
theorem tie23 : trFn Tryz.prog Tryz.f23 = some x23.fn := by kernel_rfl
theorem tie24 : trFn Tryz.prog Tryz.f24 = some x24.fn := by kernel_rfl
theorem tie26 : trFn Tryz.prog Tryz.f26 = some x26.fn := by kernel_rfl
theorem tie27 : trFn Tryz.prog Tryz.f27 = some x27.fn := by kernel_rfl
theorem tie32 : trFn Tryz.prog Tryz.f32 = some x32.fn := by kernel_rfl
theorem tie33 : trFn Tryz.prog Tryz.f33 = some x33.fn := by kernel_rfl
theorem tie34 : trFn Tryz.prog Tryz.f34 = some x34.fn := by kernel_rfl
theorem tie35 : trFn Tryz.prog Tryz.f35 = some x35.fn := by kernel_rfl
theorem tie39 : trFn Tryz.prog Tryz.f39 = some x39.fn := by kernel_rfl
theorem tie40 : trFn Tryz.prog Tryz.f40 = some x40.fn := by kernel_rfl
theorem tie41 : trFn Tryz.prog Tryz.f41 = some x41.fn := by kernel_rfl
theorem tie42 : trFn Tryz.prog Tryz.f42 = some x42.fn := by kernel_rfl
theorem tie44 : trFn Tryz.prog Tryz.f44 = some x44.fn := by kernel_rfl
theorem tie50 : trFn Tryz.prog Tryz.f50 = some x50.fn := by kernel_rfl
theorem tie51 : trFn Tryz.prog Tryz.f51 = some x51.fn := by kernel_rfl
theorem tie52 : trFn Tryz.prog Tryz.f52 = some x52.fn := by kernel_rfl
theorem tie54 : trFn Tryz.prog Tryz.f54 = some x54.fn := by kernel_rfl
theorem tie58 : trFn Tryz.prog Tryz.f58 = some x58.fn := by kernel_rfl
theorem tie62 : trFn Tryz.prog Tryz.f62 = some x62.fn := by kernel_rfl
theorem tie66 : trFn Tryz.prog Tryz.f66 = some x66.fn := by kernel_rfl
theorem tie67 : trFn Tryz.prog Tryz.f67 = some x67.fn := by kernel_rfl
theorem tie75 : trFn Tryz.prog Tryz.f75 = some x75.fn := by kernel_rfl
theorem tie77 : trFn Tryz.prog Tryz.f77 = some x77.fn := by kernel_rfl
theorem tie81 : trFn Tryz.prog Tryz.f81 = some x81.fn := by kernel_rfl
noncomputable def tr0 : ST := (ST.node 26 (ST.node 12 (ST.node 7 (ST.node 4 (ST.node 3 (ST.at 3 x3 S3) (ST.at 4 x4 S4)) (ST.node 5 (ST.at 5 x5 S5) (ST.node 6 (ST.at 6 x6 S6) (ST.at 7 x7 S7)))) (ST.node 9 (ST.node 8 (ST.at 8 x8 S8) (ST.at 9 x9 S9)) (ST.node 10 (ST.at 10 x10 S10) (ST.node 11 (ST.at 11 x11 S11) (ST.at 12 x12 S12))))) (ST.node 19 (ST.node 14 (ST.node 13 (ST.at 13 x13 S13) (ST.at 14 x14 S14)) (ST.node 17 (ST.at 17 x17 S17) (ST.node 18 (ST.at 18 x18 S18) (ST.at 19 x19 S19)))) (ST.node 22 (ST.node 20 (ST.at 20 x20 S20) (ST.node 21 (ST.at 21 x21 S21) (ST.at 22 x22 S22))) (ST.node 23 (ST.at 23 x23 S23) (ST.node 24 (ST.at 24 x24 S24) (ST.at 26 x26 S26)))))) (ST.node 44 (ST.node 35 (ST.node 32 (ST.node 27 (ST.at 27 x27 S27) (ST.at 32 x32 S32)) (ST.node 33 (ST.at 33 x33 S33) (ST.node 34 (ST.at 34 x34 S34) (ST.at 35 x35 S35)))) (ST.node 40 (ST.node 39 (ST.at 39 x39 S39) (ST.at 40 x40 S40)) (ST.node 41 (ST.at 41 x41 S41) (ST.node 42 (ST.at 42 x42 S42) (ST.at 44 x44 S44))))) (ST.node 58 (ST.node 51 (ST.node 50 (ST.at 50 x50 S50) (ST.at 51 x51 S51)) (ST.node 52 (ST.at 52 x52 S52) (ST.node 54 (ST.at 54 x54 S54) (ST.at 58 x58 S58)))) (ST.node 67 (ST.node 62 (ST.at 62 x62 S62) (ST.node 66 (ST.at 66 x66 S66) (ST.at 67 x67 S67))) (ST.node 75 (ST.at 75 x75 S75) (ST.node 77 (ST.at 77 x77 S77) (ST.at 81 x81 S81)))))))
theorem ok0 : ST.Ok Tryz.prog tr0 := (ST.Ok.node _ _ _ (ST.Ok.node _ _ _ (ST.Ok.node _ _ _ (ST.Ok.node _ _ _ (ST.Ok.node _ _ _ (ST.Ok.at _ _ _ _ Tryz.func3 tie3 X3) (ST.Ok.at _ _ _ _ Tryz.func4 tie4 X4)) (ST.Ok.node _ _ _ (ST.Ok.at _ _ _ _ Tryz.func5 tie5 X5) (ST.Ok.node _ _ _ (ST.Ok.at _ _ _ _ Tryz.func6 tie6 X6) (ST.Ok.at _ _ _ _ Tryz.func7 tie7 X7)))) (ST.Ok.node _ _ _ (ST.Ok.node _ _ _ (ST.Ok.at _ _ _ _ Tryz.func8 tie8 X8) (ST.Ok.at _ _ _ _ Tryz.func9 tie9 X9)) (ST.Ok.node _ _ _ (ST.Ok.at _ _ _ _ Tryz.func10 tie10 X10) (ST.Ok.node _ _ _ (ST.Ok.at _ _ _ _ Tryz.func11 tie11 X11) (ST.Ok.at _ _ _ _ Tryz.func12 tie12 X12))))) (ST.Ok.node _ _ _ (ST.Ok.node _ _ _ (ST.Ok.node _ _ _ (ST.Ok.at _ _ _ _ Tryz.func13 tie13 X13) (ST.Ok.at _ _ _ _ Tryz.func14 tie14 X14)) (ST.Ok.node _ _ _ (ST.Ok.at _ _ _ _ Tryz.func17 tie17 X17) (ST.Ok.node _ _ _ (ST.Ok.at _ _ _ _ Tryz.func18 tie18 X18) (ST.Ok.at _ _ _ _ Tryz.func19 tie19 X19)))) (ST.Ok.node _ _ _ (ST.Ok.node _ _ _ (ST.Ok.at _ _ _ _ Tryz.func20 tie20 X20) (ST.Ok.node _ _ _ (ST.Ok.at _ _ _ _ Tryz.func21 tie21 X21) (ST.Ok.at _ _ _ _ Tryz.func22 tie22 X22))) (ST.Ok.node _ _ _ (ST.Ok.at _ _ _ _ Tryz.func23 tie23 X23) (ST.Ok.node _ _ _ (ST.Ok.at _ _ _ _ Tryz.func24 tie24 X24) (ST.Ok.at _ _ _ _ Tryz.func26 tie26 X26)))))) (ST.Ok.node _ _ _ (ST.Ok.node _ _ _ (ST.Ok.node _ _ _ (ST.Ok.node _ _ _ (ST.Ok.at _ _ _ _ Tryz.func27 tie27 X27) (ST.Ok.at _ _ _ _ Tryz.func32 tie32 X32)) (ST.Ok.node _ _ _ (ST.Ok.at _ _ _ _ Tryz.func33 tie33 X33) (ST.Ok.node _ _ _ (ST.Ok.at _ _ _ _ Tryz.func34 tie34 X34) (ST.Ok.at _ _ _ _ Tryz.func35 tie35 X35)))) (ST.Ok.node _ _ _ (ST.Ok.node _ _ _ (ST.Ok.at _ _ _ _ Tryz.func39 tie39 X39) (ST.Ok.at _ _ _ _ Tryz.func40 tie40 X40)) (ST.Ok.node _ _ _ (ST.Ok.at _ _ _ _ Tryz.func41 tie41 X41) (ST.Ok.node _ _ _ (ST.Ok.at _ _ _ _ Tryz.func42 tie42 X42) (ST.Ok.at _ _ _ _ Tryz.func44 tie44 X44))))) (ST.Ok.node _ _ _ (ST.Ok.node _ _ _ (ST.Ok.node _ _ _ (ST.Ok.at _ _ _ _ Tryz.func50 tie50 X50) (ST.Ok.at _ _ _ _ Tryz.func51 tie51 X51)) (ST.Ok.node _ _ _ (ST.Ok.at _ _ _ _ Tryz.func52 tie52 X52) (ST.Ok.node _ _ _ (ST.Ok.at _ _ _ _ Tryz.func54 tie54 X54) (ST.Ok.at _ _ _ _ Tryz.func58 tie58 X58)))) (ST.Ok.node _ _ _ (ST.Ok.node _ _ _ (ST.Ok.at _ _ _ _ Tryz.func62 tie62 X62) (ST.Ok.node _ _ _ (ST.Ok.at _ _ _ _ Tryz.func66 tie66 X66) (ST.Ok.at _ _ _ _ Tryz.func67 tie67 X67))) (ST.Ok.node _ _ _ (ST.Ok.at _ _ _ _ Tryz.func75 tie75 X75) (ST.Ok.node _ _ _ (ST.Ok.at _ _ _ _ Tryz.func77 tie77 X77) (ST.Ok.at _ _ _ _ Tryz.func81 tie81 X81)))))))
end Go.Proofs.YtlfhnopganplfaaGreatDoor.Sx
