/- The printed code is what the translation makes of the loaded program. -/
import Derived.Test.YtmoabbfdehaenaaGreatDoorSx0
import Derived.Test.YtmoabbfdehaenaaGreatDoorRows
set_option linter.unusedSectionVars false
namespace Go.Proofs.YtmoabbfdehaenaaGreatDoor.Sx
open Go Go.Proofs.YtmoabbfdehaenaaGreatDoor.Ev
variable [Rho]
theorem tie3 : trFn Tryz.prog Tryz.f3 = some x3.fn := by kernel_rfl
theorem tie4 : trFn Tryz.prog Tryz.f4 = some x4.fn := by kernel_rfl
theorem tie5 : trFn Tryz.prog Tryz.f5 = some x5.fn := by kernel_rfl
theorem tie6 : trFn Tryz.prog Tryz.f6 = some x6.fn := by kernel_rfl
theorem tie7 : trFn Tryz.prog Tryz.f7 = some x7.fn := by kernel_rfl
theorem tie8 : trFn Tryz.prog Tryz.f8 = some x8.fn := by kernel_rfl
theorem tie9 : trFn Tryz.prog Tryz.f9 = some x9.fn := by kernel_rfl
theorem tie10 : trFn Tryz.prog Tryz.f10 = some x10.fn := by kernel_rfl
theorem tie11 : trFn Tryz.prog Tryz.f11 = some x11.fn := by kernel_rfl
theorem tie12 : trFn Tryz.prog Tryz.f12 = some x12.fn := by kernel_rfl
theorem tie13 : trFn Tryz.prog Tryz.f13 = some x13.fn := by kernel_rfl
theorem tie14 : trFn Tryz.prog Tryz.f14 = some x14.fn := by kernel_rfl
theorem tie15 : trFn Tryz.prog Tryz.f15 = some x15.fn := by kernel_rfl
theorem tie16 : trFn Tryz.prog Tryz.f16 = some x16.fn := by kernel_rfl
theorem tie17 : trFn Tryz.prog Tryz.f17 = some x17.fn := by kernel_rfl
theorem tie18 : trFn Tryz.prog Tryz.f18 = some x18.fn := by kernel_rfl
theorem tie19 : trFn Tryz.prog Tryz.f19 = some x19.fn := by kernel_rfl
theorem tie20 : trFn Tryz.prog Tryz.f20 = some x20.fn := by kernel_rfl
theorem tie21 : trFn Tryz.prog Tryz.f21 = some x21.fn := by kernel_rfl
theorem tie22 : trFn Tryz.prog Tryz.f22 = some x22.fn := by kernel_rfl
theorem tie23 : trFn Tryz.prog Tryz.f23 = some x23.fn := by kernel_rfl
theorem tie24 : trFn Tryz.prog Tryz.f24 = some x24.fn := by kernel_rfl
theorem tie25 : trFn Tryz.prog Tryz.f25 = some x25.fn := by kernel_rfl
theorem tie26 : trFn Tryz.prog Tryz.f26 = some x26.fn := by kernel_rfl
theorem tie27 : trFn Tryz.prog Tryz.f27 = some x27.fn := by kernel_rfl
theorem tie28 : trFn Tryz.prog Tryz.f28 = some x28.fn := by kernel_rfl
theorem tie29 : trFn Tryz.prog Tryz.f29 = some x29.fn := by kernel_rfl
theorem tie30 : trFn Tryz.prog Tryz.f30 = some x30.fn := by kernel_rfl
theorem tie31 : trFn Tryz.prog Tryz.f31 = some x31.fn := by kernel_rfl
theorem tie32 : trFn Tryz.prog Tryz.f32 = some x32.fn := by kernel_rfl
theorem tie33 : trFn Tryz.prog Tryz.f33 = some x33.fn := by kernel_rfl
theorem tie34 : trFn Tryz.prog Tryz.f34 = some x34.fn := by kernel_rfl
theorem tie35 : trFn Tryz.prog Tryz.f35 = some x35.fn := by kernel_rfl
theorem tie36 : trFn Tryz.prog Tryz.f36 = some x36.fn := by kernel_rfl
theorem tie37 : trFn Tryz.prog Tryz.f37 = some x37.fn := by kernel_rfl
theorem tie38 : trFn Tryz.prog Tryz.f38 = some x38.fn := by kernel_rfl
theorem tie43 : trFn Tryz.prog Tryz.f43 = some x43.fn := by kernel_rfl
theorem tie45 : trFn Tryz.prog Tryz.f45 = some x45.fn := by kernel_rfl
theorem tie50 : trFn Tryz.prog Tryz.f50 = some x50.fn := by kernel_rfl
theorem tie51 : trFn Tryz.prog Tryz.f51 = some x51.fn := by kernel_rfl
theorem tie52 : trFn Tryz.prog Tryz.f52 = some x52.fn := by kernel_rfl
theorem tie53 : trFn Tryz.prog Tryz.f53 = some x53.fn := by kernel_rfl
theorem tie54 : trFn Tryz.prog Tryz.f54 = some x54.fn := by kernel_rfl
theorem tie56 : trFn Tryz.prog Tryz.f56 = some x56.fn := by kernel_rfl
theorem tie57 : trFn Tryz.prog Tryz.f57 = some x57.fn := by kernel_rfl
theorem tie58 : trFn Tryz.prog Tryz.f58 = some x58.fn := by kernel_rfl
theorem tie63 : trFn Tryz.prog Tryz.f63 = some x63.fn := by kernel_rfl
theorem tie66 : trFn Tryz.prog Tryz.f66 = some x66.fn := by kernel_rfl
theorem tie69 : trFn Tryz.prog Tryz.f69 = some x69.fn := by kernel_rfl
theorem tie70 : trFn Tryz.prog Tryz.f70 = some x70.fn := by kernel_rfl
theorem tie71 : trFn Tryz.prog Tryz.f71 = some x71.fn := by kernel_rfl
theorem tie72 : trFn Tryz.prog Tryz.f72 = some x72.fn := by kernel_rfl
theorem tie73 : trFn Tryz.prog Tryz.f73 = some x73.fn := by kernel_rfl
theorem tie79 : trFn Tryz.prog Tryz.f79 = some x79.fn := by kernel_rfl
theorem tie80 : trFn Tryz.prog Tryz.f80 = some x80.fn := by kernel_rfl
theorem tie81 : trFn Tryz.prog Tryz.f81 = some x81.fn := by kernel_rfl
theorem tie83 : trFn Tryz.prog Tryz.f83 = some x83.fn := by kernel_rfl
theorem tie87 : trFn Tryz.prog Tryz.f87 = some x87.fn := by kernel_rfl
theorem tie88 : trFn Tryz.prog Tryz.f88 = some x88.fn := by kernel_rfl
theorem tie91 : trFn Tryz.prog Tryz.f91 = some x91.fn := by kernel_rfl
theorem tie95 : trFn Tryz.prog Tryz.f95 = some x95.fn := by kernel_rfl
noncomputable def tr0 : ST := (ST.node 32 (ST.node 17 (ST.node 9 (ST.node 5 (ST.node 3 (ST.at 3 x3 S3) (ST.node 4 (ST.at 4 x4 S4) (ST.at 5 x5 S5))) (ST.node 7 (ST.node 6 (ST.at 6 x6 S6) (ST.at 7 x7 S7)) (ST.node 8 (ST.at 8 x8 S8) (ST.at 9 x9 S9)))) (ST.node 13 (ST.node 11 (ST.node 10 (ST.at 10 x10 S10) (ST.at 11 x11 S11)) (ST.node 12 (ST.at 12 x12 S12) (ST.at 13 x13 S13))) (ST.node 15 (ST.node 14 (ST.at 14 x14 S14) (ST.at 15 x15 S15)) (ST.node 16 (ST.at 16 x16 S16) (ST.at 17 x17 S17))))) (ST.node 24 (ST.node 20 (ST.node 18 (ST.at 18 x18 S18) (ST.node 19 (ST.at 19 x19 S19) (ST.at 20 x20 S20))) (ST.node 22 (ST.node 21 (ST.at 21 x21 S21) (ST.at 22 x22 S22)) (ST.node 23 (ST.at 23 x23 S23) (ST.at 24 x24 S24)))) (ST.node 28 (ST.node 26 (ST.node 25 (ST.at 25 x25 S25) (ST.at 26 x26 S26)) (ST.node 27 (ST.at 27 x27 S27) (ST.at 28 x28 S28))) (ST.node 30 (ST.node 29 (ST.at 29 x29 S29) (ST.at 30 x30 S30)) (ST.node 31 (ST.at 31 x31 S31) (ST.at 32 x32 S32)))))) (ST.node 57 (ST.node 43 (ST.node 35 (ST.node 33 (ST.at 33 x33 S33) (ST.node 34 (ST.at 34 x34 S34) (ST.at 35 x35 S35))) (ST.node 37 (ST.node 36 (ST.at 36 x36 S36) (ST.at 37 x37 S37)) (ST.node 38 (ST.at 38 x38 S38) (ST.at 43 x43 S43)))) (ST.node 52 (ST.node 50 (ST.node 45 (ST.at 45 x45 S45) (ST.at 50 x50 S50)) (ST.node 51 (ST.at 51 x51 S51) (ST.at 52 x52 S52))) (ST.node 54 (ST.node 53 (ST.at 53 x53 S53) (ST.at 54 x54 S54)) (ST.node 56 (ST.at 56 x56 S56) (ST.at 57 x57 S57))))) (ST.node 73 (ST.node 69 (ST.node 63 (ST.node 58 (ST.at 58 x58 S58) (ST.at 63 x63 S63)) (ST.node 66 (ST.at 66 x66 S66) (ST.at 69 x69 S69))) (ST.node 71 (ST.node 70 (ST.at 70 x70 S70) (ST.at 71 x71 S71)) (ST.node 72 (ST.at 72 x72 S72) (ST.at 73 x73 S73)))) (ST.node 83 (ST.node 80 (ST.node 79 (ST.at 79 x79 S79) (ST.at 80 x80 S80)) (ST.node 81 (ST.at 81 x81 S81) (ST.at 83 x83 S83))) (ST.node 88 (ST.node 87 (ST.at 87 x87 S87) (ST.at 88 x88 S88)) (ST.node 91 (ST.at 91 x91 S91) (ST.at 95 x95 S95)))))))
theorem ok0 : ST.Ok Tryz.prog tr0 := (ST.Ok.node _ _ _ (ST.Ok.node _ _ _ (ST.Ok.node _ _ _ (ST.Ok.node _ _ _ (ST.Ok.node _ _ _ (ST.Ok.at _ _ _ _ Tryz.func3 tie3 X3) (ST.Ok.node _ _ _ (ST.Ok.at _ _ _ _ Tryz.func4 tie4 X4) (ST.Ok.at _ _ _ _ Tryz.func5 tie5 X5))) (ST.Ok.node _ _ _ (ST.Ok.node _ _ _ (ST.Ok.at _ _ _ _ Tryz.func6 tie6 X6) (ST.Ok.at _ _ _ _ Tryz.func7 tie7 X7)) (ST.Ok.node _ _ _ (ST.Ok.at _ _ _ _ Tryz.func8 tie8 X8) (ST.Ok.at _ _ _ _ Tryz.func9 tie9 X9)))) (ST.Ok.node _ _ _ (ST.Ok.node _ _ _ (ST.Ok.node _ _ _ (ST.Ok.at _ _ _ _ Tryz.func10 tie10 X10) (ST.Ok.at _ _ _ _ Tryz.func11 tie11 X11)) (ST.Ok.node _ _ _ (ST.Ok.at _ _ _ _ Tryz.func12 tie12 X12) (ST.Ok.at _ _ _ _ Tryz.func13 tie13 X13))) (ST.Ok.node _ _ _ (ST.Ok.node _ _ _ (ST.Ok.at _ _ _ _ Tryz.func14 tie14 X14) (ST.Ok.at _ _ _ _ Tryz.func15 tie15 X15)) (ST.Ok.node _ _ _ (ST.Ok.at _ _ _ _ Tryz.func16 tie16 X16) (ST.Ok.at _ _ _ _ Tryz.func17 tie17 X17))))) (ST.Ok.node _ _ _ (ST.Ok.node _ _ _ (ST.Ok.node _ _ _ (ST.Ok.at _ _ _ _ Tryz.func18 tie18 X18) (ST.Ok.node _ _ _ (ST.Ok.at _ _ _ _ Tryz.func19 tie19 X19) (ST.Ok.at _ _ _ _ Tryz.func20 tie20 X20))) (ST.Ok.node _ _ _ (ST.Ok.node _ _ _ (ST.Ok.at _ _ _ _ Tryz.func21 tie21 X21) (ST.Ok.at _ _ _ _ Tryz.func22 tie22 X22)) (ST.Ok.node _ _ _ (ST.Ok.at _ _ _ _ Tryz.func23 tie23 X23) (ST.Ok.at _ _ _ _ Tryz.func24 tie24 X24)))) (ST.Ok.node _ _ _ (ST.Ok.node _ _ _ (ST.Ok.node _ _ _ (ST.Ok.at _ _ _ _ Tryz.func25 tie25 X25) (ST.Ok.at _ _ _ _ Tryz.func26 tie26 X26)) (ST.Ok.node _ _ _ (ST.Ok.at _ _ _ _ Tryz.func27 tie27 X27) (ST.Ok.at _ _ _ _ Tryz.func28 tie28 X28))) (ST.Ok.node _ _ _ (ST.Ok.node _ _ _ (ST.Ok.at _ _ _ _ Tryz.func29 tie29 X29) (ST.Ok.at _ _ _ _ Tryz.func30 tie30 X30)) (ST.Ok.node _ _ _ (ST.Ok.at _ _ _ _ Tryz.func31 tie31 X31) (ST.Ok.at _ _ _ _ Tryz.func32 tie32 X32)))))) (ST.Ok.node _ _ _ (ST.Ok.node _ _ _ (ST.Ok.node _ _ _ (ST.Ok.node _ _ _ (ST.Ok.at _ _ _ _ Tryz.func33 tie33 X33) (ST.Ok.node _ _ _ (ST.Ok.at _ _ _ _ Tryz.func34 tie34 X34) (ST.Ok.at _ _ _ _ Tryz.func35 tie35 X35))) (ST.Ok.node _ _ _ (ST.Ok.node _ _ _ (ST.Ok.at _ _ _ _ Tryz.func36 tie36 X36) (ST.Ok.at _ _ _ _ Tryz.func37 tie37 X37)) (ST.Ok.node _ _ _ (ST.Ok.at _ _ _ _ Tryz.func38 tie38 X38) (ST.Ok.at _ _ _ _ Tryz.func43 tie43 X43)))) (ST.Ok.node _ _ _ (ST.Ok.node _ _ _ (ST.Ok.node _ _ _ (ST.Ok.at _ _ _ _ Tryz.func45 tie45 X45) (ST.Ok.at _ _ _ _ Tryz.func50 tie50 X50)) (ST.Ok.node _ _ _ (ST.Ok.at _ _ _ _ Tryz.func51 tie51 X51) (ST.Ok.at _ _ _ _ Tryz.func52 tie52 X52))) (ST.Ok.node _ _ _ (ST.Ok.node _ _ _ (ST.Ok.at _ _ _ _ Tryz.func53 tie53 X53) (ST.Ok.at _ _ _ _ Tryz.func54 tie54 X54)) (ST.Ok.node _ _ _ (ST.Ok.at _ _ _ _ Tryz.func56 tie56 X56) (ST.Ok.at _ _ _ _ Tryz.func57 tie57 X57))))) (ST.Ok.node _ _ _ (ST.Ok.node _ _ _ (ST.Ok.node _ _ _ (ST.Ok.node _ _ _ (ST.Ok.at _ _ _ _ Tryz.func58 tie58 X58) (ST.Ok.at _ _ _ _ Tryz.func63 tie63 X63)) (ST.Ok.node _ _ _ (ST.Ok.at _ _ _ _ Tryz.func66 tie66 X66) (ST.Ok.at _ _ _ _ Tryz.func69 tie69 X69))) (ST.Ok.node _ _ _ (ST.Ok.node _ _ _ (ST.Ok.at _ _ _ _ Tryz.func70 tie70 X70) (ST.Ok.at _ _ _ _ Tryz.func71 tie71 X71)) (ST.Ok.node _ _ _ (ST.Ok.at _ _ _ _ Tryz.func72 tie72 X72) (ST.Ok.at _ _ _ _ Tryz.func73 tie73 X73)))) (ST.Ok.node _ _ _ (ST.Ok.node _ _ _ (ST.Ok.node _ _ _ (ST.Ok.at _ _ _ _ Tryz.func79 tie79 X79) (ST.Ok.at _ _ _ _ Tryz.func80 tie80 X80)) (ST.Ok.node _ _ _ (ST.Ok.at _ _ _ _ Tryz.func81 tie81 X81) (ST.Ok.at _ _ _ _ Tryz.func83 tie83 X83))) (ST.Ok.node _ _ _ (ST.Ok.node _ _ _ (ST.Ok.at _ _ _ _ Tryz.func87 tie87 X87) (ST.Ok.at _ _ _ _ Tryz.func88 tie88 X88)) (ST.Ok.node _ _ _ (ST.Ok.at _ _ _ _ Tryz.func91 tie91 X91) (ST.Ok.at _ _ _ _ Tryz.func95 tie95 X95)))))))
end Go.Proofs.YtmoabbfdehaenaaGreatDoor.Sx
