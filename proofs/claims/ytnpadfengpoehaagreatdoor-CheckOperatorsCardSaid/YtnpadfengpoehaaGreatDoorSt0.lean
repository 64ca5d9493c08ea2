/- The printed code is what the translation makes of the loaded program. -/
import Derived.Test.YtnpadfengpoehaaGreatDoorSx0
import Derived.Test.YtnpadfengpoehaaGreatDoorRows
set_option linter.unusedSectionVars false
namespace Go.Proofs.YtnpadfengpoehaaGreatDoor.Sx
open Go Go.Proofs.YtnpadfengpoehaaGreatDoor.Ev
variable [Rho]
theorem tie4 : trFn Tryz.prog Tryz.f4 = some x4.fn := by kernel_rfl
theorem tie6 : trFn Tryz.prog Tryz.f6 = some x6.fn := by kernel_rfl
theorem tie9 : trFn Tryz.prog Tryz.f9 = some x9.fn := by kernel_rfl
theorem tie10 : trFn Tryz.prog Tryz.f10 = some x10.fn := by kernel_rfl
theorem tie13 : trFn Tryz.prog Tryz.f13 = some x13.fn := by kernel_rfl
theorem tie16 : trFn Tryz.prog Tryz.f16 = some x16.fn := by kernel_rfl
theorem tie21 : trFn Tryz.prog Tryz.f21 = some x21.fn := by kernel_rfl
theorem tie22 : trFn Tryz.prog Tryz.f22 = some x22.fn := by kernel_rfl
theorem tie23 : trFn Tryz.prog Tryz.f23 = some x23.fn := by kernel_rfl
theorem tie24 : trFn Tryz.prog Tryz.f24 = some x24.fn := by kernel_rfl
theorem tie27 : trFn Tryz.prog Tryz.f27 = some x27.fn := by kernel_rfl
theorem tie28 : trFn Tryz.prog Tryz.f28 = some x28.fn := by kernel_rfl
theorem tie29 : trFn Tryz.prog Tryz.f29 = some x29.fn := by kernel_rfl
theorem tie30 : trFn Tryz.prog Tryz.f30 = some x30.fn := by kernel_rfl
theorem tie35 : trFn Tryz.prog Tryz.f35 = some x35.fn := by kernel_rfl
theorem tie36 : trFn Tryz.prog Tryz.f36 = some x36.fn := by kernel_rfl
theorem tie37 : trFn Tryz.prog Tryz.f37 = some x37.fn := by kernel_rfl
theorem tie38 : trFn Tryz.prog Tryz.f38 = some x38.fn := by kernel_rfl
theorem tie39 : trFn Tryz.prog Tryz.f39 = some x39.fn := by kernel_rfl
theorem tie40 : trFn Tryz.prog Tryz.f40 = some x40.fn := by kernel_rfl
theorem tie41 : trFn Tryz.prog Tryz.f41 = some x41.fn := by kernel_rfl
theorem tie42 : trFn Tryz.prog Tryz.f42 = some x42.fn := by kernel_rfl
theorem tie43 : trFn Tryz.prog Tryz.f43 = some x43.fn := by kernel_rfl
theorem tie44 : trFn Tryz.prog Tryz.f44 = some x44.fn := by kernel_rfl
theorem tie45 : trFn Tryz.prog Tryz.f45 = some x45.fn := by kernel_rfl
theorem tie46 : trFn Tryz.prog Tryz.f46 = some x46.fn := by kernel_rfl
theorem tie54 : trFn Tryz.prog Tryz.f54 = some x54.fn := by kernel_rfl
theorem tie55 : trFn Tryz.prog Tryz.f55 = some x55.fn := by kernel_rfl
theorem tie56 : trFn Tryz.prog Tryz.f56 = some x56.fn := by kernel_rfl
theorem tie57 : trFn Tryz.prog Tryz.f57 = some x57.fn := by kernel_rfl
theorem tie58 : trFn Tryz.prog Tryz.f58 = some x58.fn := by kernel_rfl
theorem tie59 : trFn Tryz.prog Tryz.f59 = some x59.fn := by kernel_rfl
theorem tie61 : trFn Tryz.prog Tryz.f61 = some x61.fn := by kernel_rfl
theorem tie62 : trFn Tryz.prog Tryz.f62 = some x62.fn := by kernel_rfl
theorem tie63 : trFn Tryz.prog Tryz.f63 = some x63.fn := by kernel_rfl
theorem tie66 : trFn Tryz.prog Tryz.f66 = some x66.fn := by kernel_rfl
theorem tie67 : trFn Tryz.prog Tryz.f67 = some x67.fn := by kernel_rfl
theorem tie68 : trFn Tryz.prog Tryz.f68 = some x68.fn := by kernel_rfl
theorem tie69 : trFn Tryz.prog Tryz.f69 = some x69.fn := by kernel_rfl
theorem tie70 : trFn Tryz.prog Tryz.f70 = some x70.fn := by kernel_rfl
theorem tie73 : trFn Tryz.prog Tryz.f73 = some x73.fn := by kernel_rfl
theorem tie75 : trFn Tryz.prog Tryz.f75 = some x75.fn := by kernel_rfl
theorem tie76 : trFn Tryz.prog Tryz.f76 = some x76.fn := by kernel_rfl
theorem tie77 : trFn Tryz.prog Tryz.f77 = some x77.fn := by kernel_rfl
theorem tie79 : trFn Tryz.prog Tryz.f79 = some x79.fn := by kernel_rfl
noncomputable def tr0 : ST := (ST.node 42 (ST.node 27 (ST.node 13 (ST.node 6 (ST.node 4 (ST.at 4 x4 S4) (ST.at 6 x6 S6)) (ST.node 9 (ST.at 9 x9 S9) (ST.node 10 (ST.at 10 x10 S10) (ST.at 13 x13 S13)))) (ST.node 22 (ST.node 16 (ST.at 16 x16 S16) (ST.node 21 (ST.at 21 x21 S21) (ST.at 22 x22 S22))) (ST.node 23 (ST.at 23 x23 S23) (ST.node 24 (ST.at 24 x24 S24) (ST.at 27 x27 S27))))) (ST.node 36 (ST.node 29 (ST.node 28 (ST.at 28 x28 S28) (ST.at 29 x29 S29)) (ST.node 30 (ST.at 30 x30 S30) (ST.node 35 (ST.at 35 x35 S35) (ST.at 36 x36 S36)))) (ST.node 39 (ST.node 37 (ST.at 37 x37 S37) (ST.node 38 (ST.at 38 x38 S38) (ST.at 39 x39 S39))) (ST.node 40 (ST.at 40 x40 S40) (ST.node 41 (ST.at 41 x41 S41) (ST.at 42 x42 S42)))))) (ST.node 61 (ST.node 54 (ST.node 44 (ST.node 43 (ST.at 43 x43 S43) (ST.at 44 x44 S44)) (ST.node 45 (ST.at 45 x45 S45) (ST.node 46 (ST.at 46 x46 S46) (ST.at 54 x54 S54)))) (ST.node 57 (ST.node 55 (ST.at 55 x55 S55) (ST.node 56 (ST.at 56 x56 S56) (ST.at 57 x57 S57))) (ST.node 58 (ST.at 58 x58 S58) (ST.node 59 (ST.at 59 x59 S59) (ST.at 61 x61 S61))))) (ST.node 69 (ST.node 66 (ST.node 62 (ST.at 62 x62 S62) (ST.node 63 (ST.at 63 x63 S63) (ST.at 66 x66 S66))) (ST.node 67 (ST.at 67 x67 S67) (ST.node 68 (ST.at 68 x68 S68) (ST.at 69 x69 S69)))) (ST.node 75 (ST.node 70 (ST.at 70 x70 S70) (ST.node 73 (ST.at 73 x73 S73) (ST.at 75 x75 S75))) (ST.node 76 (ST.at 76 x76 S76) (ST.node 77 (ST.at 77 x77 S77) (ST.at 79 x79 S79)))))))
theorem ok0 : ST.Ok Tryz.prog tr0 := (ST.Ok.node _ _ _ (ST.Ok.node _ _ _ (ST.Ok.node _ _ _ (ST.Ok.node _ _ _ (ST.Ok.node _ _ _ (ST.Ok.at _ _ _ _ Tryz.func4 tie4 X4) (ST.Ok.at _ _ _ _ Tryz.func6 tie6 X6)) (ST.Ok.node _ _ _ (ST.Ok.at _ _ _ _ Tryz.func9 tie9 X9) (ST.Ok.node _ _ _ (ST.Ok.at _ _ _ _ Tryz.func10 tie10 X10) (ST.Ok.at _ _ _ _ Tryz.func13 tie13 X13)))) (ST.Ok.node _ _ _ (ST.Ok.node _ _ _ (ST.Ok.at _ _ _ _ Tryz.func16 tie16 X16) (ST.Ok.node _ _ _ (ST.Ok.at _ _ _ _ Tryz.func21 tie21 X21) (ST.Ok.at _ _ _ _ Tryz.func22 tie22 X22))) (ST.Ok.node _ _ _ (ST.Ok.at _ _ _ _ Tryz.func23 tie23 X23) (ST.Ok.node _ _ _ (ST.Ok.at _ _ _ _ Tryz.func24 tie24 X24) (ST.Ok.at _ _ _ _ Tryz.func27 tie27 X27))))) (ST.Ok.node _ _ _ (ST.Ok.node _ _ _ (ST.Ok.node _ _ _ (ST.Ok.at _ _ _ _ Tryz.func28 tie28 X28) (ST.Ok.at _ _ _ _ Tryz.func29 tie29 X29)) (ST.Ok.node _ _ _ (ST.Ok.at _ _ _ _ Tryz.func30 tie30 X30) (ST.Ok.node _ _ _ (ST.Ok.at _ _ _ _ Tryz.func35 tie35 X35) (ST.Ok.at _ _ _ _ Tryz.func36 tie36 X36)))) (ST.Ok.node _ _ _ (ST.Ok.node _ _ _ (ST.Ok.at _ _ _ _ Tryz.func37 tie37 X37) (ST.Ok.node _ _ _ (ST.Ok.at _ _ _ _ Tryz.func38 tie38 X38) (ST.Ok.at _ _ _ _ Tryz.func39 tie39 X39))) (ST.Ok.node _ _ _ (ST.Ok.at _ _ _ _ Tryz.func40 tie40 X40) (ST.Ok.node _ _ _ (ST.Ok.at _ _ _ _ Tryz.func41 tie41 X41) (ST.Ok.at _ _ _ _ Tryz.func42 tie42 X42)))))) (ST.Ok.node _ _ _ (ST.Ok.node _ _ _ (ST.Ok.node _ _ _ (ST.Ok.node _ _ _ (ST.Ok.at _ _ _ _ Tryz.func43 tie43 X43) (ST.Ok.at _ _ _ _ Tryz.func44 tie44 X44)) (ST.Ok.node _ _ _ (ST.Ok.at _ _ _ _ Tryz.func45 tie45 X45) (ST.Ok.node _ _ _ (ST.Ok.at _ _ _ _ Tryz.func46 tie46 X46) (ST.Ok.at _ _ _ _ Tryz.func54 tie54 X54)))) (ST.Ok.node _ _ _ (ST.Ok.node _ _ _ (ST.Ok.at _ _ _ _ Tryz.func55 tie55 X55) (ST.Ok.node _ _ _ (ST.Ok.at _ _ _ _ Tryz.func56 tie56 X56) (ST.Ok.at _ _ _ _ Tryz.func57 tie57 X57))) (ST.Ok.node _ _ _ (ST.Ok.at _ _ _ _ Tryz.func58 tie58 X58) (ST.Ok.node _ _ _ (ST.Ok.at _ _ _ _ Tryz.func59 tie59 X59) (ST.Ok.at _ _ _ _ Tryz.func61 tie61 X61))))) (ST.Ok.node _ _ _ (ST.Ok.node _ _ _ (ST.Ok.node _ _ _ (ST.Ok.at _ _ _ _ Tryz.func62 tie62 X62) (ST.Ok.node _ _ _ (ST.Ok.at _ _ _ _ Tryz.func63 tie63 X63) (ST.Ok.at _ _ _ _ Tryz.func66 tie66 X66))) (ST.Ok.node _ _ _ (ST.Ok.at _ _ _ _ Tryz.func67 tie67 X67) (ST.Ok.node _ _ _ (ST.Ok.at _ _ _ _ Tryz.func68 tie68 X68) (ST.Ok.at _ _ _ _ Tryz.func69 tie69 X69)))) (ST.Ok.node _ _ _ (ST.Ok.node _ _ _ (ST.Ok.at _ _ _ _ Tryz.func70 tie70 X70) (ST.Ok.node _ _ _ (ST.Ok.at _ _ _ _ Tryz.func73 tie73 X73) (ST.Ok.at _ _ _ _ Tryz.func75 tie75 X75))) (ST.Ok.node _ _ _ (ST.Ok.at _ _ _ _ Tryz.func76 tie76 X76) (ST.Ok.node _ _ _ (ST.Ok.at _ _ _ _ Tryz.func77 tie77 X77) (ST.Ok.at _ _ _ _ Tryz.func79 tie79 X79)))))))
end Go.Proofs.YtnpadfengpoehaaGreatDoor.Sx
