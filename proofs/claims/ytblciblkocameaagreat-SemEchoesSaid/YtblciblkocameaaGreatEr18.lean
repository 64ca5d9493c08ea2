/- SemEchoes: programs of bounds 83 to 84. -/
import Derived.Test.YtblciblkocameaaGreatEu
namespace Go.Proofs.YtblciblkocameaaGreat.Sx
open Go Go.Proofs.YtblciblkocameaaGreat.Ev
noncomputable section
theorem ran83 (r : Nat → Nat) (lt : ∀ i, r i ≤ 4294967295) : @Memo.Ran (rhoE r lt) tabY 900 12 (eE2 56 51 83) := ⟨by kernel_rfl, kE2, by kernel_rfl, by kernel_rfl⟩
theorem g83_0 : Runs 83 0 := runs ran83 (by kernel_rfl)
theorem g82_1 : Runs 82 1 := runs ran83 (by kernel_rfl)
theorem g81_2 : Runs 81 2 := runs ran83 (by kernel_rfl)
theorem g80_3 : Runs 80 3 := runs ran83 (by kernel_rfl)
theorem g79_4 : Runs 79 4 := runs ran83 (by kernel_rfl)
theorem ran84 (r : Nat → Nat) (lt : ∀ i, r i ≤ 4294967295) : @Memo.Ran (rhoE r lt) tabY 900 12 (eE2 56 52 84) := ⟨by kernel_rfl, kE2, by kernel_rfl, by kernel_rfl⟩
theorem g84_0 : Runs 84 0 := runs ran84 (by kernel_rfl)
theorem g83_1 : Runs 83 1 := runs ran84 (by kernel_rfl)
theorem g82_2 : Runs 82 2 := runs ran84 (by kernel_rfl)
theorem g81_3 : Runs 81 3 := runs ran84 (by kernel_rfl)
theorem g80_4 : Runs 80 4 := runs ran84 (by kernel_rfl)
end
end Go.Proofs.YtblciblkocameaaGreat.Sx
