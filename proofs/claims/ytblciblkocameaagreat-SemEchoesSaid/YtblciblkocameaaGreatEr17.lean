/- SemEchoes: programs of bounds 81 to 82. -/
import Derived.Test.YtblciblkocameaaGreatEu
namespace Go.Proofs.YtblciblkocameaaGreat.Sx
open Go Go.Proofs.YtblciblkocameaaGreat.Ev
noncomputable section
theorem ran81 (r : Nat → Nat) (lt : ∀ i, r i ≤ 4294967295) : @Memo.Ran (rhoE r lt) tabY 900 12 (eE2 56 49 81) := ⟨by kernel_rfl, kE2, by kernel_rfl, by kernel_rfl⟩
theorem g81_0 : Runs 81 0 := runs ran81 (by kernel_rfl)
theorem g80_1 : Runs 80 1 := runs ran81 (by kernel_rfl)
theorem g79_2 : Runs 79 2 := runs ran81 (by kernel_rfl)
theorem g78_3 : Runs 78 3 := runs ran81 (by kernel_rfl)
theorem g77_4 : Runs 77 4 := runs ran81 (by kernel_rfl)
theorem ran82 (r : Nat → Nat) (lt : ∀ i, r i ≤ 4294967295) : @Memo.Ran (rhoE r lt) tabY 900 12 (eE2 56 50 82) := ⟨by kernel_rfl, kE2, by kernel_rfl, by kernel_rfl⟩
theorem g82_0 : Runs 82 0 := runs ran82 (by kernel_rfl)
theorem g81_1 : Runs 81 1 := runs ran82 (by kernel_rfl)
theorem g80_2 : Runs 80 2 := runs ran82 (by kernel_rfl)
theorem g79_3 : Runs 79 3 := runs ran82 (by kernel_rfl)
theorem g78_4 : Runs 78 4 := runs ran82 (by kernel_rfl)
end
end Go.Proofs.YtblciblkocameaaGreat.Sx
