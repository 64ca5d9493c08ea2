/- SemEchoes: programs of bounds 79 to 80. -/
import Derived.Test.YtblciblkocameaaGreatEu
namespace Go.Proofs.YtblciblkocameaaGreat.Sx
open Go Go.Proofs.YtblciblkocameaaGreat.Ev
noncomputable section
theorem ran79 (r : Nat → Nat) (lt : ∀ i, r i ≤ 4294967295) : @Memo.Ran (rhoE r lt) tabY 900 12 (eE2 55 57 79) := ⟨by kernel_rfl, kE2, by kernel_rfl, by kernel_rfl⟩
theorem g79_0 : Runs 79 0 := runs ran79 (by kernel_rfl)
theorem g78_1 : Runs 78 1 := runs ran79 (by kernel_rfl)
theorem g77_2 : Runs 77 2 := runs ran79 (by kernel_rfl)
theorem g76_3 : Runs 76 3 := runs ran79 (by kernel_rfl)
theorem g75_4 : Runs 75 4 := runs ran79 (by kernel_rfl)
theorem ran80 (r : Nat → Nat) (lt : ∀ i, r i ≤ 4294967295) : @Memo.Ran (rhoE r lt) tabY 900 12 (eE2 56 48 80) := ⟨by kernel_rfl, kE2, by kernel_rfl, by kernel_rfl⟩
theorem g80_0 : Runs 80 0 := runs ran80 (by kernel_rfl)
theorem g79_1 : Runs 79 1 := runs ran80 (by kernel_rfl)
theorem g78_2 : Runs 78 2 := runs ran80 (by kernel_rfl)
theorem g77_3 : Runs 77 3 := runs ran80 (by kernel_rfl)
theorem g76_4 : Runs 76 4 := runs ran80 (by kernel_rfl)
end
end Go.Proofs.YtblciblkocameaaGreat.Sx
