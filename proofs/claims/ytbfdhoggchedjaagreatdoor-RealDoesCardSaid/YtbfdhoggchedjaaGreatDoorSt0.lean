/- The printed code is what the translation makes of the loaded program. -/
import Derived.Test.YtbfdhoggchedjaaGreatDoorSx0
import Derived.Test.YtbfdhoggchedjaaGreatDoorRows
set_option linter.unusedSectionVars false
namespace Go.Proofs.YtbfdhoggchedjaaGreatDoor.Sx
open Go Go.Proofs.YtbfdhoggchedjaaGreatDoor.Ev
variable [Rho]
theorem tie3 : trFn Tryz.prog Tryz.f3 = some x3.fn := by kernel_rfl
theorem tie10 : trFn Tryz.prog Tryz.f10 = some x10.fn := by kernel_rfl
theorem tie11 : trFn Tryz.prog Tryz.f11 = some x11.fn := by kernel_rfl
theorem tie12 : trFn Tryz.prog Tryz.f12 = some x12.fn := by kernel_rfl
theorem tie13 : trFn Tryz.prog Tryz.f13 = some x13.fn := by kernel_rfl
theorem tie14 : trFn Tryz.prog Tryz.f14 = some x14.fn := by kernel_rfl
theorem tie21 : trFn Tryz.prog Tryz.f21 = some x21.fn := by kernel_rfl
theorem tie22 : trFn Tryz.prog Tryz.f22 = some x22.fn := by kernel_rfl
theorem tie27 : trFn Tryz.prog Tryz.f27 = some x27.fn := by kernel_rfl
theorem tie31 : trFn Tryz.prog Tryz.f31 = some x31.fn := by kernel_rfl
theorem tie32 : trFn Tryz.prog Tryz.f32 = some x32.fn := by kernel_rfl
theorem tie33 : trFn Tryz.prog Tryz.f33 = some x33.fn := by kernel_rfl
theorem tie34 : trFn Tryz.prog Tryz.f34 = some x34.fn := by kernel_rfl
theorem tie35 : trFn Tryz.prog Tryz.f35 = some x35.fn := by kernel_rfl
theorem tie36 : trFn Tryz.prog Tryz.f36 = some x36.fn := by kernel_rfl
theorem tie37 : trFn Tryz.prog Tryz.f37 = some x37.fn := by kernel_rfl
theorem tie38 : trFn Tryz.prog Tryz.f38 = some x38.fn := by kernel_rfl
theorem tie39 : trFn Tryz.prog Tryz.f39 = some x39.fn := by kernel_rfl
theorem tie40 : trFn Tryz.prog Tryz.f40 = some x40.fn := by kernel_rfl
theorem tie41 : trFn Tryz.prog Tryz.f41 = some x41.fn := by kernel_rfl
theorem tie44 : trFn Tryz.prog Tryz.f44 = some x44.fn := by kernel_rfl
theorem tie45 : trFn Tryz.prog Tryz.f45 = some x45.fn := by kernel_rfl
theorem tie51 : trFn Tryz.prog Tryz.f51 = some x51.fn := by kernel_rfl
theorem tie52 : trFn Tryz.prog Tryz.f52 = some x52.fn := by kernel_rfl
theorem tie53 : trFn Tryz.prog Tryz.f53 = some x53.fn := by kernel_rfl
theorem tie55 : trFn Tryz.prog Tryz.f55 = some x55.fn := by kernel_rfl
theorem tie56 : trFn Tryz.prog Tryz.f56 = some x56.fn := by kernel_rfl
theorem tie60 : trFn Tryz.prog Tryz.f60 = some x60.fn := by kernel_rfl
theorem tie61 : trFn Tryz.prog Tryz.f61 = some x61.fn := by kernel_rfl
theorem tie62 : trFn Tryz.prog Tryz.f62 = some x62.fn := by kernel_rfl
theorem tie63 : trFn Tryz.prog Tryz.f63 = some x63.fn := by kernel_rfl
theorem tie64 : trFn Tryz.prog Tryz.f64 = some x64.fn := by kernel_rfl
theorem tie74 : trFn Tryz.prog Tryz.f74 = some x74.fn := by kernel_rfl
theorem tie75 : trFn Tryz.prog Tryz.f75 = some x75.fn := by kernel_rfl
theorem tie76 : trFn Tryz.prog Tryz.f76 = some x76.fn := by kernel_rfl
theorem tie79 : trFn Tryz.prog Tryz.f79 = some x79.fn := by kernel_rfl
theorem tie80 : trFn Tryz.prog Tryz.f80 = some x80.fn := by kernel_rfl
theorem tie82 : trFn Tryz.prog Tryz.f82 = some x82.fn := by kernel_rfl
theorem tie90 : trFn Tryz.prog Tryz.f90 = some x90.fn := by kernel_rfl
theorem tie94 : trFn Tryz.prog Tryz.f94 = some x94.fn := by kernel_rfl
theorem tie95 : trFn Tryz.prog Tryz.f95 = some x95.fn := by kernel_rfl
theorem tie97 : trFn Tryz.prog Tryz.f97 = some x97.fn := by kernel_rfl
theorem tie102 : trFn Tryz.prog Tryz.f102 = some x102.fn := by kernel_rfl
theorem tie111 : trFn Tryz.prog Tryz.f111 = some x111.fn := by kernel_rfl
theorem tie115 : trFn Tryz.prog Tryz.f115 = some x115.fn := by kernel_rfl
theorem tie123 : trFn Tryz.prog Tryz.f123 = some x123.fn := by kernel_rfl
noncomputable def tr0 : ST := (ST.node 51 (ST.node 32 (ST.node 13 (ST.node 10 (ST.node 3 (ST.at 3 x3 S3) (ST.at 10 x10 S10)) (ST.node 11 (ST.at 11 x11 S11) (ST.node 12 (ST.at 12 x12 S12) (ST.at 13 x13 S13)))) (ST.node 22 (ST.node 14 (ST.at 14 x14 S14) (ST.node 21 (ST.at 21 x21 S21) (ST.at 22 x22 S22))) (ST.node 27 (ST.at 27 x27 S27) (ST.node 31 (ST.at 31 x31 S31) (ST.at 32 x32 S32))))) (ST.node 38 (ST.node 35 (ST.node 33 (ST.at 33 x33 S33) (ST.node 34 (ST.at 34 x34 S34) (ST.at 35 x35 S35))) (ST.node 36 (ST.at 36 x36 S36) (ST.node 37 (ST.at 37 x37 S37) (ST.at 38 x38 S38)))) (ST.node 41 (ST.node 39 (ST.at 39 x39 S39) (ST.node 40 (ST.at 40 x40 S40) (ST.at 41 x41 S41))) (ST.node 44 (ST.at 44 x44 S44) (ST.node 45 (ST.at 45 x45 S45) (ST.at 51 x51 S51)))))) (ST.node 75 (ST.node 60 (ST.node 53 (ST.node 52 (ST.at 52 x52 S52) (ST.at 53 x53 S53)) (ST.node 55 (ST.at 55 x55 S55) (ST.node 56 (ST.at 56 x56 S56) (ST.at 60 x60 S60)))) (ST.node 63 (ST.node 61 (ST.at 61 x61 S61) (ST.node 62 (ST.at 62 x62 S62) (ST.at 63 x63 S63))) (ST.node 64 (ST.at 64 x64 S64) (ST.node 74 (ST.at 74 x74 S74) (ST.at 75 x75 S75))))) (ST.node 94 (ST.node 80 (ST.node 76 (ST.at 76 x76 S76) (ST.node 79 (ST.at 79 x79 S79) (ST.at 80 x80 S80))) (ST.node 82 (ST.at 82 x82 S82) (ST.node 90 (ST.at 90 x90 S90) (ST.at 94 x94 S94)))) (ST.node 102 (ST.node 95 (ST.at 95 x95 S95) (ST.node 97 (ST.at 97 x97 S97) (ST.at 102 x102 S102))) (ST.node 111 (ST.at 111 x111 S111) (ST.node 115 (ST.at 115 x115 S115) (ST.at 123 x123 S123)))))))
theorem ok0 : ST.Ok Tryz.prog tr0 := (ST.Ok.node _ _ _ (ST.Ok.node _ _ _ (ST.Ok.node _ _ _ (ST.Ok.node _ _ _ (ST.Ok.node _ _ _ (ST.Ok.at _ _ _ _ Tryz.func3 tie3 X3) (ST.Ok.at _ _ _ _ Tryz.func10 tie10 X10)) (ST.Ok.node _ _ _ (ST.Ok.at _ _ _ _ Tryz.func11 tie11 X11) (ST.Ok.node _ _ _ (ST.Ok.at _ _ _ _ Tryz.func12 tie12 X12) (ST.Ok.at _ _ _ _ Tryz.func13 tie13 X13)))) (ST.Ok.node _ _ _ (ST.Ok.node _ _ _ (ST.Ok.at _ _ _ _ Tryz.func14 tie14 X14) (ST.Ok.node _ _ _ (ST.Ok.at _ _ _ _ Tryz.func21 tie21 X21) (ST.Ok.at _ _ _ _ Tryz.func22 tie22 X22))) (ST.Ok.node _ _ _ (ST.Ok.at _ _ _ _ Tryz.func27 tie27 X27) (ST.Ok.node _ _ _ (ST.Ok.at _ _ _ _ Tryz.func31 tie31 X31) (ST.Ok.at _ _ _ _ Tryz.func32 tie32 X32))))) (ST.Ok.node _ _ _ (ST.Ok.node _ _ _ (ST.Ok.node _ _ _ (ST.Ok.at _ _ _ _ Tryz.func33 tie33 X33) (ST.Ok.node _ _ _ (ST.Ok.at _ _ _ _ Tryz.func34 tie34 X34) (ST.Ok.at _ _ _ _ Tryz.func35 tie35 X35))) (ST.Ok.node _ _ _ (ST.Ok.at _ _ _ _ Tryz.func36 tie36 X36) (ST.Ok.node _ _ _ (ST.Ok.at _ _ _ _ Tryz.func37 tie37 X37) (ST.Ok.at _ _ _ _ Tryz.func38 tie38 X38)))) (ST.Ok.node _ _ _ (ST.Ok.node _ _ _ (ST.Ok.at _ _ _ _ Tryz.func39 tie39 X39) (ST.Ok.node _ _ _ (ST.Ok.at _ _ _ _ Tryz.func40 tie40 X40) (ST.Ok.at _ _ _ _ Tryz.func41 tie41 X41))) (ST.Ok.node _ _ _ (ST.Ok.at _ _ _ _ Tryz.func44 tie44 X44) (ST.Ok.node _ _ _ (ST.Ok.at _ _ _ _ Tryz.func45 tie45 X45) (ST.Ok.at _ _ _ _ Tryz.func51 tie51 X51)))))) (ST.Ok.node _ _ _ (ST.Ok.node _ _ _ (ST.Ok.node _ _ _ (ST.Ok.node _ _ _ (ST.Ok.at _ _ _ _ Tryz.func52 tie52 X52) (ST.Ok.at _ _ _ _ Tryz.func53 tie53 X53)) (ST.Ok.node _ _ _ (ST.Ok.at _ _ _ _ Tryz.func55 tie55 X55) (ST.Ok.node _ _ _ (ST.Ok.at _ _ _ _ Tryz.func56 tie56 X56) (ST.Ok.at _ _ _ _ Tryz.func60 tie60 X60)))) (ST.Ok.node _ _ _ (ST.Ok.node _ _ _ (ST.Ok.at _ _ _ _ Tryz.func61 tie61 X61) (ST.Ok.node _ _ _ (ST.Ok.at _ _ _ _ Tryz.func62 tie62 X62) (ST.Ok.at _ _ _ _ Tryz.func63 tie63 X63))) (ST.Ok.node _ _ _ (ST.Ok.at _ _ _ _ Tryz.func64 tie64 X64) (ST.Ok.node _ _ _ (ST.Ok.at _ _ _ _ Tryz.func74 tie74 X74) (ST.Ok.at _ _ _ _ Tryz.func75 tie75 X75))))) (ST.Ok.node _ _ _ (ST.Ok.node _ _ _ (ST.Ok.node _ _ _ (ST.Ok.at _ _ _ _ Tryz.func76 tie76 X76) (ST.Ok.node _ _ _ (ST.Ok.at _ _ _ _ Tryz.func79 tie79 X79) (ST.Ok.at _ _ _ _ Tryz.func80 tie80 X80))) (ST.Ok.node _ _ _ (ST.Ok.at _ _ _ _ Tryz.func82 tie82 X82) (ST.Ok.node _ _ _ (ST.Ok.at _ _ _ _ Tryz.func90 tie90 X90) (ST.Ok.at _ _ _ _ Tryz.func94 tie94 X94)))) (ST.Ok.node _ _ _ (ST.Ok.node _ _ _ (ST.Ok.at _ _ _ _ Tryz.func95 tie95 X95) (ST.Ok.node _ _ _ (ST.Ok.at _ _ _ _ Tryz.func97 tie97 X97) (ST.Ok.at _ _ _ _ Tryz.func102 tie102 X102))) (ST.Ok.node _ _ _ (ST.Ok.at _ _ _ _ Tryz.func111 tie111 X111) (ST.Ok.node _ _ _ (ST.Ok.at _ _ _ _ Tryz.func115 tie115 X115) (ST.Ok.at _ _ _ _ Tryz.func123 tie123 X123)))))))
end Go.Proofs.YtbfdhoggchedjaaGreatDoor.Sx
