/- SemEchoes: programs of bounds 101 to 102. -/
import Derived.Test.YtblciblkocameaaGreatEu
namespace Go.Proofs.YtblciblkocameaaGreat.Sx
open Go Go.Proofs.YtblciblkocameaaGreat.Ev
noncomputable section
theorem ran101 (r : Nat → Nat) (lt : ∀ i, r i ≤ 4294967295) : @Memo.Ran (rhoE r lt) tabY 900 12 (eE3 49 101) := ⟨by kernel_rfl, kE3, by kernel_rfl, by kernel_rfl⟩
theorem g100_1 : Runs 100 1 := runs ran101 (by kernel_rfl)
theorem g99_2 : Runs 99 2 := runs ran101 (by kernel_rfl)
theorem g98_3 : Runs 98 3 := runs ran101 (by kernel_rfl)
theorem g97_4 : Runs 97 4 := runs ran101 (by kernel_rfl)
theorem ran102 (r : Nat → Nat) (lt : ∀ i, r i ≤ 4294967295) : @Memo.Ran (rhoE r lt) tabY 900 12 (eE3 50 102) := ⟨by kernel_rfl, kE3, by kernel_rfl, by kernel_rfl⟩
theorem g100_2 : Runs 100 2 := runs ran102 (by kernel_rfl)
theorem g99_3 : Runs 99 3 := runs ran102 (by kernel_rfl)
theorem g98_4 : Runs 98 4 := runs ran102 (by kernel_rfl)
end
end Go.Proofs.YtblciblkocameaaGreat.Sx
