/- The printed code is what the translation makes of the loaded program. -/
import Derived.Test.YtcoldhmbmcdemaaGreatMx0
import Derived.Test.YtcoldhmbmcdemaaGreatRows
namespace Go.Proofs.YtcoldhmbmcdemaaGreat.Sx
open Go Go.Proofs.YtcoldhmbmcdemaaGreat.Ev
theorem tie4 : trFn Tryz.prog Tryz.f4 = some x4.fn := by kernel_rfl
theorem tie8 : trFn Tryz.prog Tryz.f8 = some x8.fn := by kernel_rfl
theorem tie9 : trFn Tryz.prog Tryz.f9 = some x9.fn := by kernel_rfl
theorem tie11 : trFn Tryz.prog Tryz.f11 = some x11.fn := by kernel_rfl
theorem tie12 : trFn Tryz.prog Tryz.f12 = some x12.fn := by kernel_rfl
theorem tie13 : trFn Tryz.prog Tryz.f13 = some x13.fn := by kernel_rfl
theorem tie20 : trFn Tryz.prog Tryz.f20 = some x20.fn := by kernel_rfl
theorem tie21 : trFn Tryz.prog Tryz.f21 = some x21.fn := by kernel_rfl
theorem tie23 : trFn Tryz.prog Tryz.f23 = some x23.fn := by kernel_rfl
theorem tie24 : trFn Tryz.prog Tryz.f24 = some x24.fn := by kernel_rfl
theorem tie26 : trFn Tryz.prog Tryz.f26 = some x26.fn := by kernel_rfl
theorem tie27 : trFn Tryz.prog Tryz.f27 = some x27.fn := by kernel_rfl
theorem tie28 : trFn Tryz.prog Tryz.f28 = some x28.fn := by kernel_rfl
theorem tie29 : trFn Tryz.prog Tryz.f29 = some x29.fn := by kernel_rfl
theorem tie30 : trFn Tryz.prog Tryz.f30 = some x30.fn := by kernel_rfl
theorem tie31 : trFn Tryz.prog Tryz.f31 = some x31.fn := by kernel_rfl
theorem tie32 : trFn Tryz.prog Tryz.f32 = some x32.fn := by kernel_rfl
theorem tie33 : trFn Tryz.prog Tryz.f33 = some x33.fn := by kernel_rfl
theorem tie48 : trFn Tryz.prog Tryz.f48 = some x48.fn := by kernel_rfl
theorem tie49 : trFn Tryz.prog Tryz.f49 = some x49.fn := by kernel_rfl
theorem tie50 : trFn Tryz.prog Tryz.f50 = some x50.fn := by kernel_rfl
theorem tie51 : trFn Tryz.prog Tryz.f51 = some x51.fn := by kernel_rfl
theorem tie52 : trFn Tryz.prog Tryz.f52 = some x52.fn := by kernel_rfl
theorem tie53 : trFn Tryz.prog Tryz.f53 = some x53.fn := by kernel_rfl
theorem tie54 : trFn Tryz.prog Tryz.f54 = some x54.fn := by kernel_rfl
theorem tie57 : trFn Tryz.prog Tryz.f57 = some x57.fn := by kernel_rfl
noncomputable def tr0 : ST := (ST.node 28 (ST.node 13 (ST.node 9 (ST.node 4 (ST.at 4 x4 S4) (ST.node 8 (ST.at 8 x8 S8) (ST.at 9 x9 S9))) (ST.node 11 (ST.at 11 x11 S11) (ST.node 12 (ST.at 12 x12 S12) (ST.at 13 x13 S13)))) (ST.node 23 (ST.node 20 (ST.at 20 x20 S20) (ST.node 21 (ST.at 21 x21 S21) (ST.at 23 x23 S23))) (ST.node 26 (ST.node 24 (ST.at 24 x24 S24) (ST.at 26 x26 S26)) (ST.node 27 (ST.at 27 x27 S27) (ST.at 28 x28 S28))))) (ST.node 48 (ST.node 31 (ST.node 29 (ST.at 29 x29 S29) (ST.node 30 (ST.at 30 x30 S30) (ST.at 31 x31 S31))) (ST.node 32 (ST.at 32 x32 S32) (ST.node 33 (ST.at 33 x33 S33) (ST.at 48 x48 S48)))) (ST.node 51 (ST.node 49 (ST.at 49 x49 S49) (ST.node 50 (ST.at 50 x50 S50) (ST.at 51 x51 S51))) (ST.node 53 (ST.node 52 (ST.at 52 x52 S52) (ST.at 53 x53 S53)) (ST.node 54 (ST.at 54 x54 S54) (ST.at 57 x57 S57))))))
theorem ok0 : ST.Ok Tryz.prog tr0 := (ST.Ok.node _ _ _ (ST.Ok.node _ _ _ (ST.Ok.node _ _ _ (ST.Ok.node _ _ _ (ST.Ok.at _ _ _ _ Tryz.func4 tie4 X4) (ST.Ok.node _ _ _ (ST.Ok.at _ _ _ _ Tryz.func8 tie8 X8) (ST.Ok.at _ _ _ _ Tryz.func9 tie9 X9))) (ST.Ok.node _ _ _ (ST.Ok.at _ _ _ _ Tryz.func11 tie11 X11) (ST.Ok.node _ _ _ (ST.Ok.at _ _ _ _ Tryz.func12 tie12 X12) (ST.Ok.at _ _ _ _ Tryz.func13 tie13 X13)))) (ST.Ok.node _ _ _ (ST.Ok.node _ _ _ (ST.Ok.at _ _ _ _ Tryz.func20 tie20 X20) (ST.Ok.node _ _ _ (ST.Ok.at _ _ _ _ Tryz.func21 tie21 X21) (ST.Ok.at _ _ _ _ Tryz.func23 tie23 X23))) (ST.Ok.node _ _ _ (ST.Ok.node _ _ _ (ST.Ok.at _ _ _ _ Tryz.func24 tie24 X24) (ST.Ok.at _ _ _ _ Tryz.func26 tie26 X26)) (ST.Ok.node _ _ _ (ST.Ok.at _ _ _ _ Tryz.func27 tie27 X27) (ST.Ok.at _ _ _ _ Tryz.func28 tie28 X28))))) (ST.Ok.node _ _ _ (ST.Ok.node _ _ _ (ST.Ok.node _ _ _ (ST.Ok.at _ _ _ _ Tryz.func29 tie29 X29) (ST.Ok.node _ _ _ (ST.Ok.at _ _ _ _ Tryz.func30 tie30 X30) (ST.Ok.at _ _ _ _ Tryz.func31 tie31 X31))) (ST.Ok.node _ _ _ (ST.Ok.at _ _ _ _ Tryz.func32 tie32 X32) (ST.Ok.node _ _ _ (ST.Ok.at _ _ _ _ Tryz.func33 tie33 X33) (ST.Ok.at _ _ _ _ Tryz.func48 tie48 X48)))) (ST.Ok.node _ _ _ (ST.Ok.node _ _ _ (ST.Ok.at _ _ _ _ Tryz.func49 tie49 X49) (ST.Ok.node _ _ _ (ST.Ok.at _ _ _ _ Tryz.func50 tie50 X50) (ST.Ok.at _ _ _ _ Tryz.func51 tie51 X51))) (ST.Ok.node _ _ _ (ST.Ok.node _ _ _ (ST.Ok.at _ _ _ _ Tryz.func52 tie52 X52) (ST.Ok.at _ _ _ _ Tryz.func53 tie53 X53)) (ST.Ok.node _ _ _ (ST.Ok.at _ _ _ _ Tryz.func54 tie54 X54) (ST.Ok.at _ _ _ _ Tryz.func57 tie57 X57))))))
end Go.Proofs.YtcoldhmbmcdemaaGreat.Sx
