/- SemEchoes: programs of bounds 75 to 76. -/
import Derived.Test.YtblciblkocameaaGreatEu
namespace Go.Proofs.YtblciblkocameaaGreat.Sx
open Go Go.Proofs.YtblciblkocameaaGreat.Ev
noncomputable section
theorem ran75 (r : Nat → Nat) (lt : ∀ i, r i ≤ 4294967295) : @Memo.Ran (rhoE r lt) tabY 900 12 (eE2 55 53 75) := ⟨by kernel_rfl, kE2, by kernel_rfl, by kernel_rfl⟩
theorem g75_0 : Runs 75 0 := runs ran75 (by kernel_rfl)
theorem g74_1 : Runs 74 1 := runs ran75 (by kernel_rfl)
theorem g73_2 : Runs 73 2 := runs ran75 (by kernel_rfl)
theorem g72_3 : Runs 72 3 := runs ran75 (by kernel_rfl)
theorem g71_4 : Runs 71 4 := runs ran75 (by kernel_rfl)
theorem ran76 (r : Nat → Nat) (lt : ∀ i, r i ≤ 4294967295) : @Memo.Ran (rhoE r lt) tabY 900 12 (eE2 55 54 76) := ⟨by kernel_rfl, kE2, by kernel_rfl, by kernel_rfl⟩
theorem g76_0 : Runs 76 0 := runs ran76 (by kernel_rfl)
theorem g75_1 : Runs 75 1 := runs ran76 (by kernel_rfl)
theorem g74_2 : Runs 74 2 := runs ran76 (by kernel_rfl)
theorem g73_3 : Runs 73 3 := runs ran76 (by kernel_rfl)
theorem g72_4 : Runs 72 4 := runs ran76 (by kernel_rfl)
end
end Go.Proofs.YtblciblkocameaaGreat.Sx
