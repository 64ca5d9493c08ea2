/- SemEchoes: programs of bounds 89 to 90. -/
import Derived.Test.YtblciblkocameaaGreatEu
namespace Go.Proofs.YtblciblkocameaaGreat.Sx
open Go Go.Proofs.YtblciblkocameaaGreat.Ev
noncomputable section
theorem ran89 (r : Nat → Nat) (lt : ∀ i, r i ≤ 4294967295) : @Memo.Ran (rhoE r lt) tabY 900 12 (eE2 56 57 89) := ⟨by kernel_rfl, kE2, by kernel_rfl, by kernel_rfl⟩
theorem g89_0 : Runs 89 0 := runs ran89 (by kernel_rfl)
theorem g88_1 : Runs 88 1 := runs ran89 (by kernel_rfl)
theorem g87_2 : Runs 87 2 := runs ran89 (by kernel_rfl)
theorem g86_3 : Runs 86 3 := runs ran89 (by kernel_rfl)
theorem g85_4 : Runs 85 4 := runs ran89 (by kernel_rfl)
theorem ran90 (r : Nat → Nat) (lt : ∀ i, r i ≤ 4294967295) : @Memo.Ran (rhoE r lt) tabY 900 12 (eE2 57 48 90) := ⟨by kernel_rfl, kE2, by kernel_rfl, by kernel_rfl⟩
theorem g90_0 : Runs 90 0 := runs ran90 (by kernel_rfl)
theorem g89_1 : Runs 89 1 := runs ran90 (by kernel_rfl)
theorem g88_2 : Runs 88 2 := runs ran90 (by kernel_rfl)
theorem g87_3 : Runs 87 3 := runs ran90 (by kernel_rfl)
theorem g86_4 : Runs 86 4 := runs ran90 (by kernel_rfl)
end
end Go.Proofs.YtblciblkocameaaGreat.Sx
