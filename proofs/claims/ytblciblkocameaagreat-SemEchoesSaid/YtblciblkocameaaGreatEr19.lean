/- SemEchoes: programs of bounds 85 to 86. -/
import Derived.Test.YtblciblkocameaaGreatEu
namespace Go.Proofs.YtblciblkocameaaGreat.Sx
open Go Go.Proofs.YtblciblkocameaaGreat.Ev
noncomputable section
theorem ran85 (r : Nat → Nat) (lt : ∀ i, r i ≤ 4294967295) : @Memo.Ran (rhoE r lt) tabY 900 12 (eE2 56 53 85) := ⟨by kernel_rfl, kE2, by kernel_rfl, by kernel_rfl⟩
theorem g85_0 : Runs 85 0 := runs ran85 (by kernel_rfl)
theorem g84_1 : Runs 84 1 := runs ran85 (by kernel_rfl)
theorem g83_2 : Runs 83 2 := runs ran85 (by kernel_rfl)
theorem g82_3 : Runs 82 3 := runs ran85 (by kernel_rfl)
theorem g81_4 : Runs 81 4 := runs ran85 (by kernel_rfl)
theorem ran86 (r : Nat → Nat) (lt : ∀ i, r i ≤ 4294967295) : @Memo.Ran (rhoE r lt) tabY 900 12 (eE2 56 54 86) := ⟨by kernel_rfl, kE2, by kernel_rfl, by kernel_rfl⟩
theorem g86_0 : Runs 86 0 := runs ran86 (by kernel_rfl)
theorem g85_1 : Runs 85 1 := runs ran86 (by kernel_rfl)
theorem g84_2 : Runs 84 2 := runs ran86 (by kernel_rfl)
theorem g83_3 : Runs 83 3 := runs ran86 (by kernel_rfl)
theorem g82_4 : Runs 82 4 := runs ran86 (by kernel_rfl)
end
end Go.Proofs.YtblciblkocameaaGreat.Sx
