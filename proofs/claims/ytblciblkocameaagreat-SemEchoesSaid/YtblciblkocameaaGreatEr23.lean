/- SemEchoes: programs of bounds 93 to 94. -/
import Derived.Test.YtblciblkocameaaGreatEu
namespace Go.Proofs.YtblciblkocameaaGreat.Sx
open Go Go.Proofs.YtblciblkocameaaGreat.Ev
noncomputable section
theorem ran93 (r : Nat → Nat) (lt : ∀ i, r i ≤ 4294967295) : @Memo.Ran (rhoE r lt) tabY 900 12 (eE2 57 51 93) := ⟨by kernel_rfl, kE2, by kernel_rfl, by kernel_rfl⟩
theorem g93_0 : Runs 93 0 := runs ran93 (by kernel_rfl)
theorem g92_1 : Runs 92 1 := runs ran93 (by kernel_rfl)
theorem g91_2 : Runs 91 2 := runs ran93 (by kernel_rfl)
theorem g90_3 : Runs 90 3 := runs ran93 (by kernel_rfl)
theorem g89_4 : Runs 89 4 := runs ran93 (by kernel_rfl)
theorem ran94 (r : Nat → Nat) (lt : ∀ i, r i ≤ 4294967295) : @Memo.Ran (rhoE r lt) tabY 900 12 (eE2 57 52 94) := ⟨by kernel_rfl, kE2, by kernel_rfl, by kernel_rfl⟩
theorem g94_0 : Runs 94 0 := runs ran94 (by kernel_rfl)
theorem g93_1 : Runs 93 1 := runs ran94 (by kernel_rfl)
theorem g92_2 : Runs 92 2 := runs ran94 (by kernel_rfl)
theorem g91_3 : Runs 91 3 := runs ran94 (by kernel_rfl)
theorem g90_4 : Runs 90 4 := runs ran94 (by kernel_rfl)
end
end Go.Proofs.YtblciblkocameaaGreat.Sx
