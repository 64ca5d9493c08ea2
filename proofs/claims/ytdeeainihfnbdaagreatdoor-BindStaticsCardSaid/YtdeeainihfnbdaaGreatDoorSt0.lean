/- The printed code is what the translation makes of the loaded program. -/
import Derived.Test.YtdeeainihfnbdaaGreatDoorSx0
import Derived.Test.YtdeeainihfnbdaaGreatDoorRows
set_option linter.unusedSectionVars false
namespace Go.Proofs.YtdeeainihfnbdaaGreatDoor.Sx
open Go Go.Proofs.YtdeeainihfnbdaaGreatDoor.Ev
variable [Rho]
theorem tie4 : trFn Tryz.prog Tryz.f4 = some x4.fn := by kernel_rfl
theorem tie7 : trFn Tryz.prog Tryz.f7 = some x7.fn := by kernel_rfl
theorem tie8 : trFn Tryz.prog Tryz.f8 = some x8.fn := by kernel_rfl
theorem tie9 : trFn Tryz.prog Tryz.f9 = some x9.fn := by kernel_rfl
theorem tie13 : trFn Tryz.prog Tryz.f13 = some x13.fn := by kernel_rfl
theorem tie14 : trFn Tryz.prog Tryz.f14 = some x14.fn := by kernel_rfl
theorem tie15 : trFn Tryz.prog Tryz.f15 = some x15.fn := by kernel_rfl
theorem tie16 : trFn Tryz.prog Tryz.f16 = some x16.fn := by kernel_rfl
theorem tie17 : trFn Tryz.prog Tryz.f17 = some x17.fn := by kernel_rfl
theorem tie18 : trFn Tryz.prog Tryz.f18 = some x18.fn := by kernel_rfl
theorem tie27 : trFn Tryz.prog Tryz.f27 = some x27.fn := by kernel_rfl
theorem tie28 : trFn Tryz.prog Tryz.f28 = some x28.fn := by kernel_rfl
theorem tie29 : trFn Tryz.prog Tryz.f29 = some x29.fn := by kernel_rfl
theorem tie30 : trFn Tryz.prog Tryz.f30 = some x30.fn := by kernel_rfl
theorem tie31 : trFn Tryz.prog Tryz.f31 = some x31.fn := by kernel_rfl
theorem tie33 : trFn Tryz.prog Tryz.f33 = some x33.fn := by kernel_rfl
theorem tie35 : trFn Tryz.prog Tryz.f35 = some x35.fn := by kernel_rfl
theorem tie36 : trFn Tryz.prog Tryz.f36 = some x36.fn := by kernel_rfl
theorem tie37 : trFn Tryz.prog Tryz.f37 = some x37.fn := by kernel_rfl
theorem tie38 : trFn Tryz.prog Tryz.f38 = some x38.fn := by kernel_rfl
theorem tie40 : trFn Tryz.prog Tryz.f40 = some x40.fn := by kernel_rfl
theorem tie41 : trFn Tryz.prog Tryz.f41 = some x41.fn := by kernel_rfl
theorem tie42 : trFn Tryz.prog Tryz.f42 = some x42.fn := by kernel_rfl
theorem tie43 : trFn Tryz.prog Tryz.f43 = some x43.fn := by kernel_rfl
theorem tie52 : trFn Tryz.prog Tryz.f52 = some x52.fn := by kernel_rfl
theorem tie53 : trFn Tryz.prog Tryz.f53 = some x53.fn := by kernel_rfl
theorem tie54 : trFn Tryz.prog Tryz.f54 = some x54.fn := by kernel_rfl
theorem tie55 : trFn Tryz.prog Tryz.f55 = some x55.fn := by kernel_rfl
theorem tie56 : trFn Tryz.prog Tryz.f56 = some x56.fn := by kernel_rfl
theorem tie57 : trFn Tryz.prog Tryz.f57 = some x57.fn := by kernel_rfl
theorem tie58 : trFn Tryz.prog Tryz.f58 = some x58.fn := by kernel_rfl
noncomputable def tr0 : ST := (ST.node 31 (ST.node 15 (ST.node 8 (ST.node 4 (ST.at 4 x4 S4) (ST.node 7 (ST.at 7 x7 S7) (ST.at 8 x8 S8))) (ST.node 13 (ST.node 9 (ST.at 9 x9 S9) (ST.at 13 x13 S13)) (ST.node 14 (ST.at 14 x14 S14) (ST.at 15 x15 S15)))) (ST.node 27 (ST.node 17 (ST.node 16 (ST.at 16 x16 S16) (ST.at 17 x17 S17)) (ST.node 18 (ST.at 18 x18 S18) (ST.at 27 x27 S27))) (ST.node 29 (ST.node 28 (ST.at 28 x28 S28) (ST.at 29 x29 S29)) (ST.node 30 (ST.at 30 x30 S30) (ST.at 31 x31 S31))))) (ST.node 42 (ST.node 37 (ST.node 35 (ST.node 33 (ST.at 33 x33 S33) (ST.at 35 x35 S35)) (ST.node 36 (ST.at 36 x36 S36) (ST.at 37 x37 S37))) (ST.node 40 (ST.node 38 (ST.at 38 x38 S38) (ST.at 40 x40 S40)) (ST.node 41 (ST.at 41 x41 S41) (ST.at 42 x42 S42)))) (ST.node 54 (ST.node 52 (ST.node 43 (ST.at 43 x43 S43) (ST.at 52 x52 S52)) (ST.node 53 (ST.at 53 x53 S53) (ST.at 54 x54 S54))) (ST.node 56 (ST.node 55 (ST.at 55 x55 S55) (ST.at 56 x56 S56)) (ST.node 57 (ST.at 57 x57 S57) (ST.at 58 x58 S58))))))
theorem ok0 : ST.Ok Tryz.prog tr0 := (ST.Ok.node _ _ _ (ST.Ok.node _ _ _ (ST.Ok.node _ _ _ (ST.Ok.node _ _ _ (ST.Ok.at _ _ _ _ Tryz.func4 tie4 X4) (ST.Ok.node _ _ _ (ST.Ok.at _ _ _ _ Tryz.func7 tie7 X7) (ST.Ok.at _ _ _ _ Tryz.func8 tie8 X8))) (ST.Ok.node _ _ _ (ST.Ok.node _ _ _ (ST.Ok.at _ _ _ _ Tryz.func9 tie9 X9) (ST.Ok.at _ _ _ _ Tryz.func13 tie13 X13)) (ST.Ok.node _ _ _ (ST.Ok.at _ _ _ _ Tryz.func14 tie14 X14) (ST.Ok.at _ _ _ _ Tryz.func15 tie15 X15)))) (ST.Ok.node _ _ _ (ST.Ok.node _ _ _ (ST.Ok.node _ _ _ (ST.Ok.at _ _ _ _ Tryz.func16 tie16 X16) (ST.Ok.at _ _ _ _ Tryz.func17 tie17 X17)) (ST.Ok.node _ _ _ (ST.Ok.at _ _ _ _ Tryz.func18 tie18 X18) (ST.Ok.at _ _ _ _ Tryz.func27 tie27 X27))) (ST.Ok.node _ _ _ (ST.Ok.node _ _ _ (ST.Ok.at _ _ _ _ Tryz.func28 tie28 X28) (ST.Ok.at _ _ _ _ Tryz.func29 tie29 X29)) (ST.Ok.node _ _ _ (ST.Ok.at _ _ _ _ Tryz.func30 tie30 X30) (ST.Ok.at _ _ _ _ Tryz.func31 tie31 X31))))) (ST.Ok.node _ _ _ (ST.Ok.node _ _ _ (ST.Ok.node _ _ _ (ST.Ok.node _ _ _ (ST.Ok.at _ _ _ _ Tryz.func33 tie33 X33) (ST.Ok.at _ _ _ _ Tryz.func35 tie35 X35)) (ST.Ok.node _ _ _ (ST.Ok.at _ _ _ _ Tryz.func36 tie36 X36) (ST.Ok.at _ _ _ _ Tryz.func37 tie37 X37))) (ST.Ok.node _ _ _ (ST.Ok.node _ _ _ (ST.Ok.at _ _ _ _ Tryz.func38 tie38 X38) (ST.Ok.at _ _ _ _ Tryz.func40 tie40 X40)) (ST.Ok.node _ _ _ (ST.Ok.at _ _ _ _ Tryz.func41 tie41 X41) (ST.Ok.at _ _ _ _ Tryz.func42 tie42 X42)))) (ST.Ok.node _ _ _ (ST.Ok.node _ _ _ (ST.Ok.node _ _ _ (ST.Ok.at _ _ _ _ Tryz.func43 tie43 X43) (ST.Ok.at _ _ _ _ Tryz.func52 tie52 X52)) (ST.Ok.node _ _ _ (ST.Ok.at _ _ _ _ Tryz.func53 tie53 X53) (ST.Ok.at _ _ _ _ Tryz.func54 tie54 X54))) (ST.Ok.node _ _ _ (ST.Ok.node _ _ _ (ST.Ok.at _ _ _ _ Tryz.func55 tie55 X55) (ST.Ok.at _ _ _ _ Tryz.func56 tie56 X56)) (ST.Ok.node _ _ _ (ST.Ok.at _ _ _ _ Tryz.func57 tie57 X57) (ST.Ok.at _ _ _ _ Tryz.func58 tie58 X58))))))
end Go.Proofs.YtdeeainihfnbdaaGreatDoor.Sx
