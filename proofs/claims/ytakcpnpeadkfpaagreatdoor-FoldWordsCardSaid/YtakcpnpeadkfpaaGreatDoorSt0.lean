/- The printed code is what the translation makes of the loaded program. -/
import Derived.Test.YtakcpnpeadkfpaaGreatDoorSx0
import Derived.Test.YtakcpnpeadkfpaaGreatDoorRows
set_option linter.unusedSectionVars false
namespace Go.Proofs.YtakcpnpeadkfpaaGreatDoor.Sx
open Go Go.Proofs.YtakcpnpeadkfpaaGreatDoor.Ev
variable [Rho]
theorem tie3 : trFn Tryz.prog Tryz.f3 = some x3.fn := by kernel_rfl
theorem tie6 : trFn Tryz.prog Tryz.f6 = some x6.fn := by kernel_rfl
theorem tie7 : trFn Tryz.prog Tryz.f7 = some x7.fn := by kernel_rfl
theorem tie8 : trFn Tryz.prog Tryz.f8 = some x8.fn := by kernel_rfl
theorem tie9 : trFn Tryz.prog Tryz.f9 = some x9.fn := by kernel_rfl
theorem tie10 : trFn Tryz.prog Tryz.f10 = some x10.fn := by kernel_rfl
theorem tie11 : trFn Tryz.prog Tryz.f11 = some x11.fn := by kernel_rfl
theorem tie14 : trFn Tryz.prog Tryz.f14 = some x14.fn := by kernel_rfl
theorem tie15 : trFn Tryz.prog Tryz.f15 = some x15.fn := by kernel_rfl
theorem tie16 : trFn Tryz.prog Tryz.f16 = some x16.fn := by kernel_rfl
theorem tie17 : trFn Tryz.prog Tryz.f17 = some x17.fn := by kernel_rfl
theorem tie18 : trFn Tryz.prog Tryz.f18 = some x18.fn := by kernel_rfl
theorem tie19 : trFn Tryz.prog Tryz.f19 = some x19.fn := by kernel_rfl
theorem tie20 : trFn Tryz.prog Tryz.f20 = some x20.fn := by kernel_rfl
theorem tie21 : trFn Tryz.prog Tryz.f21 = some x21.fn := by kernel_rfl
theorem tie22 : trFn Tryz.prog Tryz.f22 = some x22.fn := by kernel_rfl
theorem tie23 : trFn Tryz.prog Tryz.f23 = some x23.fn := by kernel_rfl
theorem tie24 : trFn Tryz.prog Tryz.f24 = some x24.fn := by kernel_rfl
theorem tie25 : trFn Tryz.prog Tryz.f25 = some x25.fn := by kernel_rfl
theorem tie26 : trFn Tryz.prog Tryz.f26 = some x26.fn := by kernel_rfl
theorem tie27 : trFn Tryz.prog Tryz.f27 = some x27.fn := by kernel_rfl
theorem tie28 : trFn Tryz.prog Tryz.f28 = some x28.fn := by kernel_rfl
theorem tie29 : trFn Tryz.prog Tryz.f29 = some x29.fn := by kernel_rfl
theorem tie30 : trFn Tryz.prog Tryz.f30 = some x30.fn := by kernel_rfl
theorem tie31 : trFn Tryz.prog Tryz.f31 = some x31.fn := by kernel_rfl
theorem tie32 : trFn Tryz.prog Tryz.f32 = some x32.fn := by kernel_rfl
theorem tie33 : trFn Tryz.prog Tryz.f33 = some x33.fn := by kernel_rfl
theorem tie34 : trFn Tryz.prog Tryz.f34 = some x34.fn := by kernel_rfl
theorem tie35 : trFn Tryz.prog Tryz.f35 = some x35.fn := by kernel_rfl
theorem tie36 : trFn Tryz.prog Tryz.f36 = some x36.fn := by kernel_rfl
theorem tie37 : trFn Tryz.prog Tryz.f37 = some x37.fn := by kernel_rfl
theorem tie38 : trFn Tryz.prog Tryz.f38 = some x38.fn := by kernel_rfl
theorem tie39 : trFn Tryz.prog Tryz.f39 = some x39.fn := by kernel_rfl
theorem tie40 : trFn Tryz.prog Tryz.f40 = some x40.fn := by kernel_rfl
theorem tie41 : trFn Tryz.prog Tryz.f41 = some x41.fn := by kernel_rfl
theorem tie42 : trFn Tryz.prog Tryz.f42 = some x42.fn := by kernel_rfl
theorem tie43 : trFn Tryz.prog Tryz.f43 = some x43.fn := by kernel_rfl
theorem tie44 : trFn Tryz.prog Tryz.f44 = some x44.fn := by kernel_rfl
theorem tie45 : trFn Tryz.prog Tryz.f45 = some x45.fn := by kernel_rfl
theorem tie48 : trFn Tryz.prog Tryz.f48 = some x48.fn := by kernel_rfl
theorem tie49 : trFn Tryz.prog Tryz.f49 = some x49.fn := by kernel_rfl
theorem tie50 : trFn Tryz.prog Tryz.f50 = some x50.fn := by kernel_rfl
theorem tie51 : trFn Tryz.prog Tryz.f51 = some x51.fn := by kernel_rfl
theorem tie52 : trFn Tryz.prog Tryz.f52 = some x52.fn := by kernel_rfl
theorem tie53 : trFn Tryz.prog Tryz.f53 = some x53.fn := by kernel_rfl
theorem tie54 : trFn Tryz.prog Tryz.f54 = some x54.fn := by kernel_rfl
theorem tie55 : trFn Tryz.prog Tryz.f55 = some x55.fn := by kernel_rfl
theorem tie58 : trFn Tryz.prog Tryz.f58 = some x58.fn := by kernel_rfl
noncomputable def tr0 : ST := (ST.node 30 (ST.node 18 (ST.node 10 (ST.node 7 (ST.node 3 (ST.at 3 x3 S3) (ST.node 6 (ST.at 6 x6 S6) (ST.at 7 x7 S7))) (ST.node 8 (ST.at 8 x8 S8) (ST.node 9 (ST.at 9 x9 S9) (ST.at 10 x10 S10)))) (ST.node 15 (ST.node 11 (ST.at 11 x11 S11) (ST.node 14 (ST.at 14 x14 S14) (ST.at 15 x15 S15))) (ST.node 16 (ST.at 16 x16 S16) (ST.node 17 (ST.at 17 x17 S17) (ST.at 18 x18 S18))))) (ST.node 24 (ST.node 21 (ST.node 19 (ST.at 19 x19 S19) (ST.node 20 (ST.at 20 x20 S20) (ST.at 21 x21 S21))) (ST.node 22 (ST.at 22 x22 S22) (ST.node 23 (ST.at 23 x23 S23) (ST.at 24 x24 S24)))) (ST.node 27 (ST.node 25 (ST.at 25 x25 S25) (ST.node 26 (ST.at 26 x26 S26) (ST.at 27 x27 S27))) (ST.node 28 (ST.at 28 x28 S28) (ST.node 29 (ST.at 29 x29 S29) (ST.at 30 x30 S30)))))) (ST.node 42 (ST.node 36 (ST.node 33 (ST.node 31 (ST.at 31 x31 S31) (ST.node 32 (ST.at 32 x32 S32) (ST.at 33 x33 S33))) (ST.node 34 (ST.at 34 x34 S34) (ST.node 35 (ST.at 35 x35 S35) (ST.at 36 x36 S36)))) (ST.node 39 (ST.node 37 (ST.at 37 x37 S37) (ST.node 38 (ST.at 38 x38 S38) (ST.at 39 x39 S39))) (ST.node 40 (ST.at 40 x40 S40) (ST.node 41 (ST.at 41 x41 S41) (ST.at 42 x42 S42))))) (ST.node 50 (ST.node 45 (ST.node 43 (ST.at 43 x43 S43) (ST.node 44 (ST.at 44 x44 S44) (ST.at 45 x45 S45))) (ST.node 48 (ST.at 48 x48 S48) (ST.node 49 (ST.at 49 x49 S49) (ST.at 50 x50 S50)))) (ST.node 53 (ST.node 51 (ST.at 51 x51 S51) (ST.node 52 (ST.at 52 x52 S52) (ST.at 53 x53 S53))) (ST.node 54 (ST.at 54 x54 S54) (ST.node 55 (ST.at 55 x55 S55) (ST.at 58 x58 S58)))))))
theorem ok0 : ST.Ok Tryz.prog tr0 := (ST.Ok.node _ _ _ (ST.Ok.node _ _ _ (ST.Ok.node _ _ _ (ST.Ok.node _ _ _ (ST.Ok.node _ _ _ (ST.Ok.at _ _ _ _ Tryz.func3 tie3 X3) (ST.Ok.node _ _ _ (ST.Ok.at _ _ _ _ Tryz.func6 tie6 X6) (ST.Ok.at _ _ _ _ Tryz.func7 tie7 X7))) (ST.Ok.node _ _ _ (ST.Ok.at _ _ _ _ Tryz.func8 tie8 X8) (ST.Ok.node _ _ _ (ST.Ok.at _ _ _ _ Tryz.func9 tie9 X9) (ST.Ok.at _ _ _ _ Tryz.func10 tie10 X10)))) (ST.Ok.node _ _ _ (ST.Ok.node _ _ _ (ST.Ok.at _ _ _ _ Tryz.func11 tie11 X11) (ST.Ok.node _ _ _ (ST.Ok.at _ _ _ _ Tryz.func14 tie14 X14) (ST.Ok.at _ _ _ _ Tryz.func15 tie15 X15))) (ST.Ok.node _ _ _ (ST.Ok.at _ _ _ _ Tryz.func16 tie16 X16) (ST.Ok.node _ _ _ (ST.Ok.at _ _ _ _ Tryz.func17 tie17 X17) (ST.Ok.at _ _ _ _ Tryz.func18 tie18 X18))))) (ST.Ok.node _ _ _ (ST.Ok.node _ _ _ (ST.Ok.node _ _ _ (ST.Ok.at _ _ _ _ Tryz.func19 tie19 X19) (ST.Ok.node _ _ _ (ST.Ok.at _ _ _ _ Tryz.func20 tie20 X20) (ST.Ok.at _ _ _ _ Tryz.func21 tie21 X21))) (ST.Ok.node _ _ _ (ST.Ok.at _ _ _ _ Tryz.func22 tie22 X22) (ST.Ok.node _ _ _ (ST.Ok.at _ _ _ _ Tryz.func23 tie23 X23) (ST.Ok.at _ _ _ _ Tryz.func24 tie24 X24)))) (ST.Ok.node _ _ _ (ST.Ok.node _ _ _ (ST.Ok.at _ _ _ _ Tryz.func25 tie25 X25) (ST.Ok.node _ _ _ (ST.Ok.at _ _ _ _ Tryz.func26 tie26 X26) (ST.Ok.at _ _ _ _ Tryz.func27 tie27 X27))) (ST.Ok.node _ _ _ (ST.Ok.at _ _ _ _ Tryz.func28 tie28 X28) (ST.Ok.node _ _ _ (ST.Ok.at _ _ _ _ Tryz.func29 tie29 X29) (ST.Ok.at _ _ _ _ Tryz.func30 tie30 X30)))))) (ST.Ok.node _ _ _ (ST.Ok.node _ _ _ (ST.Ok.node _ _ _ (ST.Ok.node _ _ _ (ST.Ok.at _ _ _ _ Tryz.func31 tie31 X31) (ST.Ok.node _ _ _ (ST.Ok.at _ _ _ _ Tryz.func32 tie32 X32) (ST.Ok.at _ _ _ _ Tryz.func33 tie33 X33))) (ST.Ok.node _ _ _ (ST.Ok.at _ _ _ _ Tryz.func34 tie34 X34) (ST.Ok.node _ _ _ (ST.Ok.at _ _ _ _ Tryz.func35 tie35 X35) (ST.Ok.at _ _ _ _ Tryz.func36 tie36 X36)))) (ST.Ok.node _ _ _ (ST.Ok.node _ _ _ (ST.Ok.at _ _ _ _ Tryz.func37 tie37 X37) (ST.Ok.node _ _ _ (ST.Ok.at _ _ _ _ Tryz.func38 tie38 X38) (ST.Ok.at _ _ _ _ Tryz.func39 tie39 X39))) (ST.Ok.node _ _ _ (ST.Ok.at _ _ _ _ Tryz.func40 tie40 X40) (ST.Ok.node _ _ _ (ST.Ok.at _ _ _ _ Tryz.func41 tie41 X41) (ST.Ok.at _ _ _ _ Tryz.func42 tie42 X42))))) (ST.Ok.node _ _ _ (ST.Ok.node _ _ _ (ST.Ok.node _ _ _ (ST.Ok.at _ _ _ _ Tryz.func43 tie43 X43) (ST.Ok.node _ _ _ (ST.Ok.at _ _ _ _ Tryz.func44 tie44 X44) (ST.Ok.at _ _ _ _ Tryz.func45 tie45 X45))) (ST.Ok.node _ _ _ (ST.Ok.at _ _ _ _ Tryz.func48 tie48 X48) (ST.Ok.node _ _ _ (ST.Ok.at _ _ _ _ Tryz.func49 tie49 X49) (ST.Ok.at _ _ _ _ Tryz.func50 tie50 X50)))) (ST.Ok.node _ _ _ (ST.Ok.node _ _ _ (ST.Ok.at _ _ _ _ Tryz.func51 tie51 X51) (ST.Ok.node _ _ _ (ST.Ok.at _ _ _ _ Tryz.func52 tie52 X52) (ST.Ok.at _ _ _ _ Tryz.func53 tie53 X53))) (ST.Ok.node _ _ _ (ST.Ok.at _ _ _ _ Tryz.func54 tie54 X54) (ST.Ok.node _ _ _ (ST.Ok.at _ _ _ _ Tryz.func55 tie55 X55) (ST.Ok.at _ _ _ _ Tryz.func58 tie58 X58)))))))
end Go.Proofs.YtakcpnpeadkfpaaGreatDoor.Sx
