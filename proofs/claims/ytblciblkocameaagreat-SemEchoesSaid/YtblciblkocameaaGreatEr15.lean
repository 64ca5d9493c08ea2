/- SemEchoes: programs of bounds 77 to 78. -/
import Derived.Test.YtblciblkocameaaGreatEu
namespace Go.Proofs.YtblciblkocameaaGreat.Sx
open Go Go.Proofs.YtblciblkocameaaGreat.Ev
noncomputable section
theorem ran77 (r : Nat → Nat) (lt : ∀ i, r i ≤ 4294967295) : @Memo.Ran (rhoE r lt) tabY 900 12 (eE2 55 55 77) := ⟨by kernel_rfl, kE2, by kernel_rfl, by kernel_rfl⟩
theorem g77_0 : Runs 77 0 := runs ran77 (by kernel_rfl)
theorem g76_1 : Runs 76 1 := runs ran77 (by kernel_rfl)
theorem g75_2 : Runs 75 2 := runs ran77 (by kernel_rfl)
theorem g74_3 : Runs 74 3 := runs ran77 (by kernel_rfl)
theorem g73_4 : Runs 73 4 := runs ran77 (by kernel_rfl)
theorem ran78 (r : Nat → Nat) (lt : ∀ i, r i ≤ 4294967295) : @Memo.Ran (rhoE r lt) tabY 900 12 (eE2 55 56 78) := ⟨by kernel_rfl, kE2, by kernel_rfl, by kernel_rfl⟩
theorem g78_0 : Runs 78 0 := runs ran78 (by kernel_rfl)
theorem g77_1 : Runs 77 1 := runs ran78 (by kernel_rfl)
theorem g76_2 : Runs 76 2 := runs ran78 (by kernel_rfl)
theorem g75_3 : Runs 75 3 := runs ran78 (by kernel_rfl)
theorem g74_4 : Runs 74 4 := runs ran78 (by kernel_rfl)
end
end Go.Proofs.YtblciblkocameaaGreat.Sx
