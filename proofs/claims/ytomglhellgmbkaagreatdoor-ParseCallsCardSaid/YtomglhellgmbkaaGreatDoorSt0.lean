/- The printed code is what the translation makes of the loaded program. -/
import Derived.Test.YtomglhellgmbkaaGreatDoorSx0
import Derived.Test.YtomglhellgmbkaaGreatDoorRows
set_option linter.unusedSectionVars false
namespace Go.Proofs.YtomglhellgmbkaaGreatDoor.Sx
open Go Go.Proofs.YtomglhellgmbkaaGreatDoor.Ev
variable [Rho]
theorem tie4 : trFn Tryz.prog Tryz.f4 = some x4.fn := by kernel_rfl
theorem tie5 : trFn Tryz.prog Tryz.f5 = some x5.fn := by kernel_rfl
theorem tie6 : trFn Tryz.prog Tryz.f6 = some x6.fn := by kernel_rfl
theorem tie8 : trFn Tryz.prog Tryz.f8 = some x8.fn := by kernel_rfl
theorem tie9 : trFn Tryz.prog Tryz.f9 = some x9.fn := by kernel_rfl
theorem tie12 : trFn Tryz.prog Tryz.f12 = some x12.fn := by kernel_rfl
theorem tie13 : trFn Tryz.prog Tryz.f13 = some x13.fn := by kernel_rfl
theorem tie14 : trFn Tryz.prog Tryz.f14 = some x14.fn := by kernel_rfl
theorem tie15 : trFn Tryz.prog Tryz.f15 = some x15.fn := by kernel_rfl
theorem tie19 : trFn Tryz.prog Tryz.f19 = some x19.fn := by kernel_rfl
theorem tie20 : trFn Tryz.prog Tryz.f20 = some x20.fn := by kernel_rfl
theorem tie21 : trFn Tryz.prog Tryz.f21 = some x21.fn := by kernel_rfl
theorem tie22 : trFn Tryz.prog Tryz.f22 = some x22.fn := by kernel_rfl
theorem tie23 : trFn Tryz.prog Tryz.f23 = some x23.fn := by kernel_rfl
theorem tie24 : trFn Tryz.prog Tryz.f24 = some x24.fn := by kernel_rfl
theorem tie25 : trFn Tryz.prog Tryz.f25 = some x25.fn := by kernel_rfl
theorem tie26 : trFn Tryz.prog Tryz.f26 = some x26.fn := by kernel_rfl
theorem tie27 : trFn Tryz.prog Tryz.f27 = some x27.fn := by kernel_rfl
theorem tie28 : trFn Tryz.prog Tryz.f28 = some x28.fn := by kernel_rfl
theorem tie29 : trFn Tryz.prog Tryz.f29 = some x29.fn := by kernel_rfl
theorem tie30 : trFn Tryz.prog Tryz.f30 = some x30.fn := by kernel_rfl
theorem tie32 : trFn Tryz.prog Tryz.f32 = some x32.fn := by kernel_rfl
theorem tie33 : trFn Tryz.prog Tryz.f33 = some x33.fn := by kernel_rfl
theorem tie34 : trFn Tryz.prog Tryz.f34 = some x34.fn := by kernel_rfl
theorem tie36 : trFn Tryz.prog Tryz.f36 = some x36.fn := by kernel_rfl
theorem tie37 : trFn Tryz.prog Tryz.f37 = some x37.fn := by kernel_rfl
theorem tie38 : trFn Tryz.prog Tryz.f38 = some x38.fn := by kernel_rfl
theorem tie39 : trFn Tryz.prog Tryz.f39 = some x39.fn := by kernel_rfl
theorem tie40 : trFn Tryz.prog Tryz.f40 = some x40.fn := by kernel_rfl
theorem tie41 : trFn Tryz.prog Tryz.f41 = some x41.fn := by kernel_rfl
theorem tie42 : trFn Tryz.prog Tryz.f42 = some x42.fn := by kernel_rfl
theorem tie43 : trFn Tryz.prog Tryz.f43 = some x43.fn := by kernel_rfl
theorem tie44 : trFn Tryz.prog Tryz.f44 = some x44.fn := by kernel_rfl
theorem tie45 : trFn Tryz.prog Tryz.f45 = some x45.fn := by kernel_rfl
theorem tie46 : trFn Tryz.prog Tryz.f46 = some x46.fn := by kernel_rfl
theorem tie47 : trFn Tryz.prog Tryz.f47 = some x47.fn := by kernel_rfl
theorem tie51 : trFn Tryz.prog Tryz.f51 = some x51.fn := by kernel_rfl
theorem tie53 : trFn Tryz.prog Tryz.f53 = some x53.fn := by kernel_rfl
theorem tie54 : trFn Tryz.prog Tryz.f54 = some x54.fn := by kernel_rfl
theorem tie56 : trFn Tryz.prog Tryz.f56 = some x56.fn := by kernel_rfl
theorem tie57 : trFn Tryz.prog Tryz.f57 = some x57.fn := by kernel_rfl
theorem tie59 : trFn Tryz.prog Tryz.f59 = some x59.fn := by kernel_rfl
theorem tie60 : trFn Tryz.prog Tryz.f60 = some x60.fn := by kernel_rfl
theorem tie67 : trFn Tryz.prog Tryz.f67 = some x67.fn := by kernel_rfl
theorem tie73 : trFn Tryz.prog Tryz.f73 = some x73.fn := by kernel_rfl
theorem tie74 : trFn Tryz.prog Tryz.f74 = some x74.fn := by kernel_rfl
theorem tie85 : trFn Tryz.prog Tryz.f85 = some x85.fn := by kernel_rfl
noncomputable def tr0 : ST := (ST.node 33 (ST.node 20 (ST.node 9 (ST.node 5 (ST.node 4 (ST.at 4 x4 S4) (ST.at 5 x5 S5)) (ST.node 6 (ST.at 6 x6 S6) (ST.node 8 (ST.at 8 x8 S8) (ST.at 9 x9 S9)))) (ST.node 14 (ST.node 12 (ST.at 12 x12 S12) (ST.node 13 (ST.at 13 x13 S13) (ST.at 14 x14 S14))) (ST.node 15 (ST.at 15 x15 S15) (ST.node 19 (ST.at 19 x19 S19) (ST.at 20 x20 S20))))) (ST.node 26 (ST.node 23 (ST.node 21 (ST.at 21 x21 S21) (ST.node 22 (ST.at 22 x22 S22) (ST.at 23 x23 S23))) (ST.node 24 (ST.at 24 x24 S24) (ST.node 25 (ST.at 25 x25 S25) (ST.at 26 x26 S26)))) (ST.node 29 (ST.node 27 (ST.at 27 x27 S27) (ST.node 28 (ST.at 28 x28 S28) (ST.at 29 x29 S29))) (ST.node 30 (ST.at 30 x30 S30) (ST.node 32 (ST.at 32 x32 S32) (ST.at 33 x33 S33)))))) (ST.node 46 (ST.node 40 (ST.node 37 (ST.node 34 (ST.at 34 x34 S34) (ST.node 36 (ST.at 36 x36 S36) (ST.at 37 x37 S37))) (ST.node 38 (ST.at 38 x38 S38) (ST.node 39 (ST.at 39 x39 S39) (ST.at 40 x40 S40)))) (ST.node 43 (ST.node 41 (ST.at 41 x41 S41) (ST.node 42 (ST.at 42 x42 S42) (ST.at 43 x43 S43))) (ST.node 44 (ST.at 44 x44 S44) (ST.node 45 (ST.at 45 x45 S45) (ST.at 46 x46 S46))))) (ST.node 57 (ST.node 53 (ST.node 47 (ST.at 47 x47 S47) (ST.node 51 (ST.at 51 x51 S51) (ST.at 53 x53 S53))) (ST.node 54 (ST.at 54 x54 S54) (ST.node 56 (ST.at 56 x56 S56) (ST.at 57 x57 S57)))) (ST.node 67 (ST.node 59 (ST.at 59 x59 S59) (ST.node 60 (ST.at 60 x60 S60) (ST.at 67 x67 S67))) (ST.node 73 (ST.at 73 x73 S73) (ST.node 74 (ST.at 74 x74 S74) (ST.at 85 x85 S85)))))))
theorem ok0 : ST.Ok Tryz.prog tr0 := (ST.Ok.node _ _ _ (ST.Ok.node _ _ _ (ST.Ok.node _ _ _ (ST.Ok.node _ _ _ (ST.Ok.node _ _ _ (ST.Ok.at _ _ _ _ Tryz.func4 tie4 X4) (ST.Ok.at _ _ _ _ Tryz.func5 tie5 X5)) (ST.Ok.node _ _ _ (ST.Ok.at _ _ _ _ Tryz.func6 tie6 X6) (ST.Ok.node _ _ _ (ST.Ok.at _ _ _ _ Tryz.func8 tie8 X8) (ST.Ok.at _ _ _ _ Tryz.func9 tie9 X9)))) (ST.Ok.node _ _ _ (ST.Ok.node _ _ _ (ST.Ok.at _ _ _ _ Tryz.func12 tie12 X12) (ST.Ok.node _ _ _ (ST.Ok.at _ _ _ _ Tryz.func13 tie13 X13) (ST.Ok.at _ _ _ _ Tryz.func14 tie14 X14))) (ST.Ok.node _ _ _ (ST.Ok.at _ _ _ _ Tryz.func15 tie15 X15) (ST.Ok.node _ _ _ (ST.Ok.at _ _ _ _ Tryz.func19 tie19 X19) (ST.Ok.at _ _ _ _ Tryz.func20 tie20 X20))))) (ST.Ok.node _ _ _ (ST.Ok.node _ _ _ (ST.Ok.node _ _ _ (ST.Ok.at _ _ _ _ Tryz.func21 tie21 X21) (ST.Ok.node _ _ _ (ST.Ok.at _ _ _ _ Tryz.func22 tie22 X22) (ST.Ok.at _ _ _ _ Tryz.func23 tie23 X23))) (ST.Ok.node _ _ _ (ST.Ok.at _ _ _ _ Tryz.func24 tie24 X24) (ST.Ok.node _ _ _ (ST.Ok.at _ _ _ _ Tryz.func25 tie25 X25) (ST.Ok.at _ _ _ _ Tryz.func26 tie26 X26)))) (ST.Ok.node _ _ _ (ST.Ok.node _ _ _ (ST.Ok.at _ _ _ _ Tryz.func27 tie27 X27) (ST.Ok.node _ _ _ (ST.Ok.at _ _ _ _ Tryz.func28 tie28 X28) (ST.Ok.at _ _ _ _ Tryz.func29 tie29 X29))) (ST.Ok.node _ _ _ (ST.Ok.at _ _ _ _ Tryz.func30 tie30 X30) (ST.Ok.node _ _ _ (ST.Ok.at _ _ _ _ Tryz.func32 tie32 X32) (ST.Ok.at _ _ _ _ Tryz.func33 tie33 X33)))))) (ST.Ok.node _ _ _ (ST.Ok.node _ _ _ (ST.Ok.node _ _ _ (ST.Ok.node _ _ _ (ST.Ok.at _ _ _ _ Tryz.func34 tie34 X34) (ST.Ok.node _ _ _ (ST.Ok.at _ _ _ _ Tryz.func36 tie36 X36) (ST.Ok.at _ _ _ _ Tryz.func37 tie37 X37))) (ST.Ok.node _ _ _ (ST.Ok.at _ _ _ _ Tryz.func38 tie38 X38) (ST.Ok.node _ _ _ (ST.Ok.at _ _ _ _ Tryz.func39 tie39 X39) (ST.Ok.at _ _ _ _ Tryz.func40 tie40 X40)))) (ST.Ok.node _ _ _ (ST.Ok.node _ _ _ (ST.Ok.at _ _ _ _ Tryz.func41 tie41 X41) (ST.Ok.node _ _ _ (ST.Ok.at _ _ _ _ Tryz.func42 tie42 X42) (ST.Ok.at _ _ _ _ Tryz.func43 tie43 X43))) (ST.Ok.node _ _ _ (ST.Ok.at _ _ _ _ Tryz.func44 tie44 X44) (ST.Ok.node _ _ _ (ST.Ok.at _ _ _ _ Tryz.func45 tie45 X45) (ST.Ok.at _ _ _ _ Tryz.func46 tie46 X46))))) (ST.Ok.node _ _ _ (ST.Ok.node _ _ _ (ST.Ok.node _ _ _ (ST.Ok.at _ _ _ _ Tryz.func47 tie47 X47) (ST.Ok.node _ _ _ (ST.Ok.at _ _ _ _ Tryz.func51 tie51 X51) (ST.Ok.at _ _ _ _ Tryz.func53 tie53 X53))) (ST.Ok.node _ _ _ (ST.Ok.at _ _ _ _ Tryz.func54 tie54 X54) (ST.Ok.node _ _ _ (ST.Ok.at _ _ _ _ Tryz.func56 tie56 X56) (ST.Ok.at _ _ _ _ Tryz.func57 tie57 X57)))) (ST.Ok.node _ _ _ (ST.Ok.node _ _ _ (ST.Ok.at _ _ _ _ Tryz.func59 tie59 X59) (ST.Ok.node _ _ _ (ST.Ok.at _ _ _ _ Tryz.func60 tie60 X60) (ST.Ok.at _ _ _ _ Tryz.func67 tie67 X67))) (ST.Ok.node _ _ _ (ST.Ok.at _ _ _ _ Tryz.func73 tie73 X73) (ST.Ok.node _ _ _ (ST.Ok.at _ _ _ _ Tryz.func74 tie74 X74) (ST.Ok.at _ _ _ _ Tryz.func85 tie85 X85)))))))
end Go.Proofs.YtomglhellgmbkaaGreatDoor.Sx
