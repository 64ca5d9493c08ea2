/- SemEchoes: programs of bounds 87 to 88. -/
import Derived.Test.YtblciblkocameaaGreatEu
namespace Go.Proofs.YtblciblkocameaaGreat.Sx
open Go Go.Proofs.YtblciblkocameaaGreat.Ev
noncomputable section
theorem ran87 (r : Nat → Nat) (lt : ∀ i, r i ≤ 4294967295) : @Memo.Ran (rhoE r lt) tabY 900 12 (eE2 56 55 87) := ⟨by kernel_rfl, kE2, by kernel_rfl, by kernel_rfl⟩
theorem g87_0 : Runs 87 0 := runs ran87 (by kernel_rfl)
theorem g86_1 : Runs 86 1 := runs ran87 (by kernel_rfl)
theorem g85_2 : Runs 85 2 := runs ran87 (by kernel_rfl)
theorem g84_3 : Runs 84 3 := runs ran87 (by kernel_rfl)
theorem g83_4 : Runs 83 4 := runs ran87 (by kernel_rfl)
theorem ran88 (r : Nat → Nat) (lt : ∀ i, r i ≤ 4294967295) : @Memo.Ran (rhoE r lt) tabY 900 12 (eE2 56 56 88) := ⟨by kernel_rfl, kE2, by kernel_rfl, by kernel_rfl⟩
theorem g88_0 : Runs 88 0 := runs ran88 (by kernel_rfl)
theorem g87_1 : Runs 87 1 := runs ran88 (by kernel_rfl)
theorem g86_2 : Runs 86 2 := runs ran88 (by kernel_rfl)
theorem g85_3 : Runs 85 3 := runs ran88 (by kernel_rfl)
theorem g84_4 : Runs 84 4 := runs ran88 (by kernel_rfl)
end
end Go.Proofs.YtblciblkocameaaGreat.Sx
