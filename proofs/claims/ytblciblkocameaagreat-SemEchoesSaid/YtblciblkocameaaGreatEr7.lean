/- SemEchoes: programs of bounds 61 to 62. -/
import Derived.Test.YtblciblkocameaaGreatEu
namespace Go.Proofs.YtblciblkocameaaGreat.Sx
open Go Go.Proofs.YtblciblkocameaaGreat.Ev
noncomputable section
theorem ran61 (r : Nat → Nat) (lt : ∀ i, r i ≤ 4294967295) : @Memo.Ran (rhoE r lt) tabY 900 12 (eE2 54 49 61) := ⟨by kernel_rfl, kE2, by kernel_rfl, by kernel_rfl⟩
theorem g61_0 : Runs 61 0 := runs ran61 (by kernel_rfl)
theorem g60_1 : Runs 60 1 := runs ran61 (by kernel_rfl)
theorem g59_2 : Runs 59 2 := runs ran61 (by kernel_rfl)
theorem g58_3 : Runs 58 3 := runs ran61 (by kernel_rfl)
theorem g57_4 : Runs 57 4 := runs ran61 (by kernel_rfl)
theorem ran62 (r : Nat → Nat) (lt : ∀ i, r i ≤ 4294967295) : @Memo.Ran (rhoE r lt) tabY 900 12 (eE2 54 50 62) := ⟨by kernel_rfl, kE2, by kernel_rfl, by kernel_rfl⟩
theorem g62_0 : Runs 62 0 := runs ran62 (by kernel_rfl)
theorem g61_1 : Runs 61 1 := runs ran62 (by kernel_rfl)
theorem g60_2 : Runs 60 2 := runs ran62 (by kernel_rfl)
theorem g59_3 : Runs 59 3 := runs ran62 (by kernel_rfl)
theorem g58_4 : Runs 58 4 := runs ran62 (by kernel_rfl)
end
end Go.Proofs.YtblciblkocameaaGreat.Sx
