/- SemEchoes: programs of bounds 91 to 92. -/
import Derived.Test.YtblciblkocameaaGreatEu
namespace Go.Proofs.YtblciblkocameaaGreat.Sx
open Go Go.Proofs.YtblciblkocameaaGreat.Ev
noncomputable section
theorem ran91 (r : Nat → Nat) (lt : ∀ i, r i ≤ 4294967295) : @Memo.Ran (rhoE r lt) tabY 900 12 (eE2 57 49 91) := ⟨by kernel_rfl, kE2, by kernel_rfl, by kernel_rfl⟩
theorem g91_0 : Runs 91 0 := runs ran91 (by kernel_rfl)
theorem g90_1 : Runs 90 1 := runs ran91 (by kernel_rfl)
theorem g89_2 : Runs 89 2 := runs ran91 (by kernel_rfl)
theorem g88_3 : Runs 88 3 := runs ran91 (by kernel_rfl)
theorem g87_4 : Runs 87 4 := runs ran91 (by kernel_rfl)
theorem ran92 (r : Nat → Nat) (lt : ∀ i, r i ≤ 4294967295) : @Memo.Ran (rhoE r lt) tabY 900 12 (eE2 57 50 92) := ⟨by kernel_rfl, kE2, by kernel_rfl, by kernel_rfl⟩
theorem g92_0 : Runs 92 0 := runs ran92 (by kernel_rfl)
theorem g91_1 : Runs 91 1 := runs ran92 (by kernel_rfl)
theorem g90_2 : Runs 90 2 := runs ran92 (by kernel_rfl)
theorem g89_3 : Runs 89 3 := runs ran92 (by kernel_rfl)
theorem g88_4 : Runs 88 4 := runs ran92 (by kernel_rfl)
end
end Go.Proofs.YtblciblkocameaaGreat.Sx
